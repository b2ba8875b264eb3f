import PyProof.Rows.All
import HandS.Conv
import HandS.Deep
import HandS.Defaults
import HandS.Dict
import HandS.DictEq
import HandS.EndBits
import HandS.Ends
import HandS.ExcIs
import HandS.ForExc
import HandS.ForMost
import HandS.Head0
import HandS.Head1
import HandS.Head2
import HandS.HeadEnd
import HandS.HeadHook1
import HandS.HeadHook2
import HandS.HeadHook3
import HandS.HeadHook4
import HandS.IsInst
import HandS.ListEq
import HandS.More
import HandS.Rev
import HandS.Steps
import HandS.Style
import HandS.Text
import HandS.TupLe
import HandS.Words
import KE.GoesEnum
import KE.GoesMore
import KE.GoesZip
import KE.KEqDict
import KE.KStateDown
import OpenK.AllK
import PyProof.EqKinds
import PyProof.ListRange
import PyProof.NeKinds
import Wide.All
import Wide.FinOn
import PySem.Challenge.RW_leastmiss_k62_joined_and_steps
set_option Elab.async false
set_option linter.all false
set_option maxRecDepth 100000
set_option maxHeartbeats 0
namespace TV0
open PySem PySem.Spec PyProof.Rows L2 RT
open Sem (wp)
section
variable {prog : Program} {w : World} {A : Around} {E : Value → Shared → Prop} {s : Shared}
theorem extend_rev {R : Result → Shared → Prop} {it l : Addr} {items : Array Value} (hh : A.handled = none) (hit : s.heap.IsRevIter it l ((items.size : Int) - 1)) (hl : s.heap.IsList l items) (hne : l ≠ it) (hn : items.size ≤ sizeLine)
    (S : Addr) (res : Value) (c₀ : Nat) (hS : s.heap.get? S = some { cls := .type "list", data := .seq #[] c₀ }) (hSi : S ≠ it) (hSl : S ≠ l)
    (hR : ∀ h' tk acc' c', (∀ b o, b ≠ S → b ≠ it → s.heap.get? b = some o → h'.get? b = some o) → h'.get? S = some { cls := .type "list", dict := none, data := .seq acc' c', slots := #[] } →
      ItemsOf (fun i v => items[items.size - 1 - i]? = some v) acc' items.size → R (.ok (.ret res)) { s with heap := h', toks := tk }) :
    wpAny (model prog w) A.in1 (Builtin.List.listExtendWith (.ref S) (.ref it) res)
      (fun fin s' => match fin with | .done f => R (.ok f) s' | .again c' => c'.quiet = true ∧ codeAny (model prog w) A c' R s') (fun e s' => R (.error e) s') s := by
  have W := (Walks.listRev (prog := prog) (w := w) (A := A.in1) hh it l hne items).toS
  have hSf : S ∉ [it, l] := by simp only [List.mem_cons, List.not_mem_nil, or_false, not_or]; exact ⟨hSi, hSl⟩
  have hT : s.TypeIs (.ref it) "list_reverseiterator" := hit.typeIs
  have h1 : Builtin.List.listSameRef (.ref S) (.ref it) = false := by simp [Builtin.List.listSameRef, hSi]
  unfold Builtin.List.listExtendWith
  refine wpAny_bind (wpAny_typeOf hT ?_)
  rw [if_neg (by rw [h1]; decide)]
  refine wpAny_bind (wpAny_pyIter_revIter hit ?_)
  refine wpAny_bind (wpAny_holding ?_)
  unfold Builtin.List.listLengthHint
  refine wpAny_bind (wpAny_specialOf hT nolen_lri ?_)
  show wpAny _ A.in1 (specialOf (Value.ref it) (Str.ofString "__length_hint__") >>= _) _ _ _
  refine wpAny_bind (wpAny_specialOf hT hint_lri ?_)
  generalize hid : ("list_reverseiterator.__length_hint__" : String) = id0
  wp_delta
  rw [show splitId id0 = some ("list_reverseiterator", "__length_hint__") from by subst hid; decide +kernel]
  subst hid
  refine wpAny_bind (wpAny_isInstance (b := true) hT (by rw [isSubtype_type]; kernel_rfl) ?_)
  refine wpAny_pure ?_
  rw [if_neg (by decide)]
  have e0 : ((items.size : Nat) : Int) - 1 - ((0 : Nat) : Int) = (items.size : Int) - 1 := by omega
  refine wpAny_pure ⟨plainId_quiet F.plain_extend_loop _, codeAny_extend_loopS W hn _ hSf _ items.size 0 _ _ _ rfl (Nat.zero_le _) ⟨Nat.zero_le _, by rw [e0]; exact hit, hl⟩ hS (ItemsOf.nil _) fun s' acc' c' hm hS' hacc => ?_⟩
  rw [Moved.eq_with hm]
  refine hR s'.heap s'.toks acc' c' (fun b o hb hb2 e => hm.heap b o (fun hmem => ?_) e) hS' hacc
  rcases List.mem_cons.mp hmem with e' | hmem
  · exact hb e'
  · exact hb2 (List.mem_singleton.mp hmem)
theorem init_rev {R : Result → Shared → Prop} {it l : Addr} {items : Array Value} (hh : A.handled = none) (hit : s.heap.IsRevIter it l ((items.size : Int) - 1)) (hl : s.heap.IsList l items) (hne : l ≠ it) (hn : items.size ≤ sizeLine)
    (S : Addr) (hS : s.heap.get? S = some { cls := .type "list", data := .seq #[] }) (hSi : S ≠ it) (hSl : S ≠ l)
    (hR : ∀ h' tk acc' c', (∀ b o, b ≠ S → b ≠ it → s.heap.get? b = some o → h'.get? b = some o) → h'.get? S = some { cls := .type "list", dict := none, data := .seq acc' c', slots := #[] } →
      ItemsOf (fun i v => items[items.size - 1 - i]? = some v) acc' items.size → R (.ok (.ret .none)) { s with heap := h', toks := tk }) :
    wpAny (model prog w) A.in1 (Builtin.«list.__init__» ⟨[.ref S, .ref it], []⟩)
      (fun fin s' => match fin with | .done f => R (.ok f) s' | .again c' => c'.quiet = true ∧ codeAny (model prog w) A c' R s') (fun e s' => R (.error e) s') s := by
  show wpAny _ _ (do let old ← Builtin.List.listItems (.ref S); Builtin.List.listUpdate (.ref S) (fun _ => #[]); letGo old.toList.reverse; Builtin.List.listExtendWith (.ref S) (.ref it) .none) _ _ s
  refine wpAny_bind ?_
  unfold Builtin.List.listItems
  refine wpAny_bind (wpAny_seqItems hS rfl (wpAny_pure ?_))
  show wpAny _ _ (updateSeq S (fun _ => #[]) >>= fun _ => letGo (#[] : Array Value).toList.reverse >>= fun _ => Builtin.List.listExtendWith (.ref S) (.ref it) .none) _ _ s
  refine wpAny_bind (wpAny_updateSeq hS rfl ?_)
  have hS₂ := Heap.get?_update_self (Obj.mapSeq (fun _ => (#[] : Array Value))) hS rfl
  have oth : ∀ b o, b ≠ S → s.heap.get? b = some o → (s.heap.update S (Obj.mapSeq (fun _ => (#[] : Array Value)))).get? b = some o :=
    fun b o hb e => (Heap.get?_update_other _ _ (Ne.symm hb)).trans e
  refine wpAny_bind (wpAny_letGo ?_)
  obtain ⟨ol, hol, hcl⟩ := id hl
  refine extend_rev (s := { s with heap := s.heap.update S (Obj.mapSeq (fun _ => (#[] : Array Value))) }) hh (hit.at fun o e => oth it o (Ne.symm hSi) e) ⟨ol, oth l ol (Ne.symm hSl) hol, hcl⟩ hne hn S .none _ hS₂ hSi hSl fun h' tk acc' c' hk hS' hacc => ?_
  exact hR h' tk acc' c' (fun b o hb hb2 e => hk b o hb hb2 (oth b o hb e)) hS' hacc
theorem call_list_rev {it l : Addr} {items : Array Value} {Q : Value → Shared → Prop} (hh : A.handled = none) (hit : s.heap.IsRevIter it l ((items.size : Int) - 1)) (hl : s.heap.IsList l items) (hne : l ≠ it) (hn : items.size ≤ sizeLine)
    (hQ : ∀ h' tk acc' c', (∀ b o, b ≠ it → s.heap.get? b = some o → h'.get? b = some o) →
      h'.get? s.heap.objs.size = some { cls := .type "list", dict := none, data := .seq acc' c', slots := #[] } → ItemsOf (fun i v => items[items.size - 1 - i]? = some v) acc' items.size → Q (.ref s.heap.objs.size) { s with heap := h', toks := tk }) :
    wpAny (model prog w) A (call (.type "list") [.ref it]) Q E s := by
  refine callType_codes (Q₁ := fun obj s₁ => obj = .ref s.heap.objs.size ∧ s₁ = { s with heap := s.heap.push { cls := .type "list", data := .seq #[] } }) F.called_list (F.typeCall_list_1 _) F.entry_list_init
    (code_list_new _ ⟨rfl, rfl⟩) fun obj s₁ h₁ => ?_
  obtain ⟨rfl, rfl⟩ := h₁
  have hS : (s.heap.push { cls := .type "list", data := .seq #[] }).get? s.heap.objs.size = some { cls := .type "list", data := .seq #[] } := Heap.get?_push_size _ rfl
  obtain ⟨oi, hoi, _⟩ := id hit
  obtain ⟨ol, hol, _⟩ := id hl
  refine ⟨⟨_, hS, rfl⟩, F.args_list_init_2 _ _, init_rev (A := A.in1) (s := { s with heap := s.heap.push { cls := .type "list", data := .seq #[] } }) hh (hit.at fun o e => Heap.get?_push_of_some _ e) (hl.push _) hne hn _ hS (Nat.ne_of_gt (Heap.lt_size hoi)) (Nat.ne_of_gt (Heap.lt_size hol)) fun h' tk acc' c' hk hS' hacc => ?_⟩
  exact ⟨rfl, hQ h' tk acc' c' (fun b o hb e => hk b o (Nat.ne_of_lt (Heap.lt_size e)) hb (Heap.get?_push_of_some _ e)) hS' hacc⟩
end
section
variable {X : Cx}
/-- list(reversed(x)), x a list: a new list -/
def tLstRev (K : PySem.W.Frag) (te : TE) : TE := fun σ H Q => te σ H fun v H1 => ∃ (a : Addr) (xs : List V), v = .ref a ∧ SqL K H1 a xs ∧ ∀ q, H1 q = none → Q (.ref q) (upd H1 q (.lst xs.reverse))
theorem pe_lstRev {e : Expr} {te : TE} {p p2 pos pos2 : Pos} (hc : X.calm = true) (hg : Gl X "list") (hm : X.mg "list" = none) (hg2 : Gl X "reversed") (hm2 : X.mg "reversed" = none) (he : PE X e te)
    (hs : starEach [e] X.env = (false, eval e X.env) :: starEach [] X.env := by rfl)
    (hs2 : starEach [.Call (.Name "reversed" p2) [e] [] pos2] X.env = (false, eval (.Call (.Name "reversed" p2) [e] [] pos2) X.env) :: starEach [] X.env := by rfl) :
    PE X (.Call (.Name "list" p) [.Call (.Name "reversed" p2) [e] [] pos2] [] pos) (tLstRev X.K te) := by
  refine ⟨fun pins s σ H Q I h => ?_⟩
  refine Call_ (ld_blt I hg hm boot_list (PyProof.Rows.callWith_type1 (args_cons (Call_ (ld_blt I hg2 hm2 PyProof.Rows.boot_reversed (PyProof.Rows.callWith_type1 (args_cons (thn (he.run pins s σ H _ I h) fun u s1 ⟨v, H1, I1, r1, q1⟩ => args_nil ?_) hs) hs rfl))) hs2) hs2 rfl))
  obtain ⟨a, xs, ev, hq, q⟩ := q1
  subst ev
  obtain rfl : u = Value.ref a := r1
  obtain ⟨its, rv, p', hz⟩ := I1.list hq
  refine call_reversed_list p'.isList (args_nil ?_)
  have k0 : ∀ b o, s1.heap.get? b = some o → (s1.heap.push (revObj a ((its.toArray.size : Int) - 1))).get? b = some o := fun b o e => Heap.get?_push_of_some _ e
  have I2 : Inv X pins σ H1 { s1 with heap := s1.heap.push (revObj a ((its.toArray.size : Int) - 1)) } := I1.kept (t' := s1.toks) k0
  have fo := I1.fpOk (H' := H1) (b := s1.heap.objs.size) (Nat.le_refl _) (I1.hok.fresh (Nat.le_refl _))
  have hl := p'.isList
  obtain ⟨ol, hol, _⟩ := id hl
  have hne : a ≠ s1.heap.objs.size := Nat.ne_of_lt (Heap.lt_size hol)
  have hn : its.toArray.size ≤ sizeLine := by rw [List.size_toArray, ← rv.length]; exact hz
  refine call_list_rev (s := { s1 with heap := s1.heap.push (revObj a ((its.toArray.size : Int) - 1)) }) (I1.ok.hd hc) ⟨_, Heap.get?_push_size _ rfl, rfl, rfl⟩ (hl.push _) hne hn fun h' tk acc c' hk e' hi => ?_
  refine ⟨.ref _, upd H1 _ (.lst xs.reverse), I2.turnedNew (t' := tk) (ch := [s1.heap.objs.size]) (fun b o hb e => hk b o (fun z => hb (by simp [z])) e) (fun b hb => by rw [List.mem_singleton.mp hb]; exact fo) (Nat.le_refl _) (show ObjOk X.prog X.w _ _ _ (.lst xs.reverse) from ⟨by rw [List.length_reverse]; exact hz, acc.toList, c', vals_rev rv hi, ?_⟩), rfl, q _ (I2.hok.fresh (Nat.le_refl _))⟩
  rw [Array.toArray_toList]; exact e'
end
/-- the lists at a, b, c as they stand at each turn, the items in new triples -/
def Itz3 (K : PySem.W.Frag) (a b c : Addr) (n1 n2 n3 : Nat) : It :=
  ⟨fun i H => ∃ (xs ys zs : List V) (x y z : V), (SqL K H a xs ∧ SqL K H b ys ∧ SqL K H c zs) ∧ (xs.length = n1 ∧ ys.length = n2 ∧ zs.length = n3) ∧ xs[i]? = some x ∧ ys[i]? = some y ∧ zs[i]? = some z,
    fun i H v H' => ∃ T x y z, v = .ref T ∧ H T = none ∧ H' = upd H T (.tup [x, y, z]) ∧ (∀ xs, SqL K H a xs → xs[i]? = some x) ∧ (∀ ys, SqL K H b ys → ys[i]? = some y) ∧ ∀ zs, SqL K H c zs → zs[i]? = some z,
    fun i H => ∃ xs ys zs : List V, (SqL K H a xs ∧ SqL K H b ys ∧ SqL K H c zs) ∧ (xs.length = n1 ∧ ys.length = n2 ∧ zs.length = n3) ∧ (n1 ≤ i ∨ n2 ≤ i ∨ n3 ≤ i)⟩
theorem turn_zip3 {P : Program} {w : World} {K : PySem.W.Frag} {elts : List Expr} {kk : Nat} {tpos : Pos} {a b c z TI TO i1 i2 i3 : Addr} {n1 n2 n3 : Nat} (D : ZipSep3 z TI TO i1 i2 i3 [i1, a] [i2, b] [i3, c]) (na : a ≠ i1) (nb : b ≠ i2) (nc : c ≠ i3) :
    Turn P w K (.Tuple elts kk tpos) (Itz3 K a b c n1 n2 n3) [z, TI, TO, i1, i2, i3] z (fun i h => (i ≤ n1 ∧ i ≤ n2 ∧ i ≤ n3) ∧ IsZip h z TI TO .none ∧ IsTupOf3 h TI (.ref i1) (.ref i2) (.ref i3) ∧ (∃ x y v, IsTupOf3 h TO x y v) ∧ h.IsListIter i1 a i ∧ h.IsListIter i2 b i ∧ h.IsListIter i3 c i) where
  mem := by simp
  obj := fun i h st c' hc => by
    obtain ⟨_, hz, hTI, ⟨x, y, v, hTO⟩, ⟨o1, e1, _, d1⟩, ⟨o2, e2, _, d2⟩, ⟨o3, e3, _, d3⟩⟩ := st
    have e' : c' = z ∨ c' = TI ∨ c' = TO ∨ c' = i1 ∨ c' = i2 ∨ c' = i3 := by simpa using hc
    rcases e' with q | q | q | q | q | q
    · rw [q]; exact ⟨_, hz, fun v q => nomatch q⟩
    · rw [q]; exact ⟨_, hTI, fun v q => nomatch q⟩
    · rw [q]; exact ⟨_, hTO, fun v q => nomatch q⟩
    · rw [q]; exact ⟨o1, e1, fun v q => by rw [d1] at q; cases q⟩
    · rw [q]; exact ⟨o2, e2, fun v q => by rw [d2] at q; cases q⟩
    · rw [q]; exact ⟨o3, e3, fun v q => by rw [d3] at q; cases q⟩
  keep := fun i h h' st k => by
    obtain ⟨hi, hz, hTI, ⟨x, y, v, hTO⟩, h1, h2, h3⟩ := st
    exact ⟨hi, k z (by simp) _ hz, k TI (by simp) _ hTI, ⟨x, y, v, k TO (by simp) _ hTO⟩, h1.at fun o q => k i1 (by simp) o q, h2.at fun o q => k i2 (by simp) o q, h3.at fun o q => k i3 (by simp) o q⟩
  item := by
    intro X hP hw hK hc i pins s σ H E I hf st hg
    subst hP hw hK
    obtain ⟨hi, hz, hTI, ⟨x0, y0, v0, hTO⟩, h1, h2, h3⟩ := st
    obtain ⟨xs, ys, zs, x, y, v, ⟨hqx, hqy, hqz⟩, ⟨l1, l2, l3⟩, hx, hy, hv⟩ := hg
    obtain ⟨its, rv, p, _⟩ := I.list hqx
    obtain ⟨its2, rv2, p2, _⟩ := I.list hqy
    obtain ⟨its3, rv3, p3, _⟩ := I.list hqz
    obtain ⟨u, hu, ru⟩ := rv.get hx
    obtain ⟨u2, hu2, ru2⟩ := rv2.get hy
    obtain ⟨u3, hu3, ru3⟩ := rv3.get hv
    have hh : X.A.in1.handled = none := I.ok.hd hc
    have hzl : z < s.heap.objs.size := Heap.lt_size hz
    have q1 := (List.getElem?_eq_some_iff.mp hx).1
    have q2 := (List.getElem?_eq_some_iff.mp hy).1
    have q3 := (List.getElem?_eq_some_iff.mp hv).1
    have m1 := rv.length
    have m2 := rv2.length
    have m3 := rv3.length
    refine wpAny_pyNext_zipD3_item D (Draws.list hh i1 a na its.toArray) (Draws.list hh i2 b nb its2.toArray) (Draws.list hh i3 c nc its3.toArray) hz hTI hTO ⟨h1, p.isList⟩ ⟨h2, p2.isList⟩ ⟨h3, p3.isList⟩ (by simp; omega) (by simp; omega) (by simp; omega) fun x1 x2 x3 h' tk y1 y2 y3 hz' TO' h1' h2' h3' hT hsz hk => ?_
    have ex1 : x1 = u := by
      have : its.toArray[i]? = some x1 := y1
      rw [show its.toArray[i]? = some u from by simpa using hu] at this
      exact (Option.some.inj this).symm
    have ex2 : x2 = u2 := by
      have : its2.toArray[i]? = some x2 := y2
      rw [show its2.toArray[i]? = some u2 from by simpa using hu2] at this
      exact (Option.some.inj this).symm
    have ex3 : x3 = u3 := by
      have : its3.toArray[i]? = some x3 := y3
      rw [show its3.toArray[i]? = some u3 from by simpa using hu3] at this
      exact (Option.some.inj this).symm
    subst ex1 ex2 ex3
    refine ⟨_, rfl, wpAny_letOwnedTupleGo_zip (s := { s with heap := h', toks := tk }) hz' fun h'' z'' sb => ?_⟩
    have hT2 : h''.get? s.heap.objs.size = some { cls := .type "tuple", data := .seq #[x1, x2, x3] } := (sb.2 _ (Nat.ne_of_gt hzl)).trans hT
    have new : ObjOk X.prog X.w (upd H s.heap.objs.size (.tup [x, y, v])) h'' s.heap.objs.size (.tup [x, y, v]) :=
      ⟨by show 3 ≤ sizeLine; decide, [x1, x2, x3], .cons ru (.cons ru2 (.cons ru3 .nil)), ⟨_, hT2, rfl, _, rfl⟩⟩
    have I1 : Inv X pins σ (upd H s.heap.objs.size (.tup [x, y, v])) { s with heap := h'', toks := tk } :=
      I.turnedNew (t' := tk) (ch := [z, TI, TO, i1, i2, i3]) (fun c' o hb q => (sb.2 c' (fun q' => hb (by simp [q']))).trans (hk c' o (fun q' => hb (by simp [q'])) (fun q' => hb (by simp [q'])) (fun q' => hb (by simp [q'])) (fun q' => hb (by simp [q'])) (fun q' => hb (by simp [q'])) q)) hf (Nat.le_refl _) new
    refine ⟨.ref s.heap.objs.size, _, I1, rfl, ⟨_, x, y, v, rfl, I.hok.fresh (Nat.le_refl _), rfl, fun l hl => by rw [I.list_inj hl hqx]; exact hx, fun l hl => by rw [I.list_inj hl hqy]; exact hy, fun l hl => by rw [I.list_inj hl hqz]; exact hv⟩, ⟨⟨by omega, by omega, by omega⟩, z'', ?_, ⟨x1, x2, x3, ?_⟩, ?_, ?_, ?_⟩, fun c' hcm => ?_⟩
    · exact (sb.2 _ D.TIz).trans (hk _ _ D.TIz D.TITO D.TIi1 D.TIi2 D.TIi3 hTI)
    · exact (sb.2 _ D.TOz).trans TO'
    · exact h1'.1.at fun o q => (sb.2 _ D.zi1.symm).trans q
    · exact h2'.1.at fun o q => (sb.2 _ D.zi2.symm).trans q
    · exact h3'.1.at fun o q => (sb.2 _ D.zi3.symm).trans q
    · have hlt : c' < s.heap.objs.size := by
        have e' : c' = z ∨ c' = TI ∨ c' = TO ∨ c' = i1 ∨ c' = i2 ∨ c' = i3 := by simpa using hcm
        rcases e' with q | q | q | q | q | q
        · rw [q]; exact hzl
        · rw [q]; exact Heap.lt_size hTI
        · rw [q]; exact Heap.lt_size hTO
        · rw [q]; obtain ⟨_, e1, _⟩ := h1; exact Heap.lt_size e1
        · rw [q]; obtain ⟨_, e2, _⟩ := h2; exact Heap.lt_size e2
        · rw [q]; obtain ⟨_, e3, _⟩ := h3; exact Heap.lt_size e3
      rw [upd_ne (Nat.ne_of_lt hlt)]
      exact (hf c' hcm).1
  done := by
    intro X hP hw hK hc i pins s σ H E I hf st hg
    subst hP hw hK
    obtain ⟨⟨b1, b2, b3⟩, hz, hTI, ⟨x0, y0, v0, hTO⟩, h1, h2, h3⟩ := st
    obtain ⟨xs, ys, zs, ⟨hqx, hqy, hqz⟩, ⟨l1, l2, l3⟩, hend⟩ := hg
    obtain ⟨its, rv, p, _⟩ := I.list hqx
    obtain ⟨its2, rv2, p2, _⟩ := I.list hqy
    obtain ⟨its3, rv3, p3, _⟩ := I.list hqz
    have hh : X.A.in1.handled = none := I.ok.hd hc
    have m1 := rv.length
    have m2 := rv2.length
    have m3 := rv3.length
    exact wpAny_pyNext_zipD3_end D (Draws.list hh i1 a na its.toArray) (Draws.list hh i2 b nb its2.toArray) (Draws.list hh i3 c nc its3.toArray) hz hTI hTO ⟨h1, p.isList⟩ ⟨h2, p2.isList⟩ ⟨h3, p3.isList⟩ (by simp; omega) (by simp; omega) (by simp; omega) (by simp only [List.size_toArray]; omega) fun h' tk hk => ⟨rfl, I.turnedL (t' := tk) (ch := [z, TI, TO, i1, i2, i3]) (fun c' o hb q =>
      hk c' o (fun q' => hb (by simp [q'])) (fun q' => hb (by simp [q'])) (fun q' => hb (by simp [q'])) (fun q' => hb (by simp [q'])) (fun q' => hb (by simp [q'])) q) hf⟩
  self := fun A i s Q E st h => wpAny_pyIter_zip st.2.1 h
def iZip3 (K : PySem.W.Frag) (ta : TA) : TI := fun σ H R => ta σ H fun vs H1 => ∃ a b c xs ys zs, vs = [.ref a, .ref b, .ref c] ∧ (SqL K H1 a xs ∧ SqL K H1 b ys ∧ SqL K H1 c zs) ∧ R (Itz3 K a b c xs.length ys.length zs.length) H1
theorem pi_zip3 {X : Cx} {e e2 e3 : Expr} {ta : TA} {p pos tpos : Pos} {elts : List Expr} {kk : Nat} (hg : Gl X "zip") (hm : X.mg "zip" = none) (ha : PA X [e, e2, e3] ta)
    (hs : starEach [e, e2, e3] X.env = (false, eval e X.env) :: starEach [e2, e3] X.env := by rfl) (hpl : (backTo pos (starEach [e2, e3] X.env)).any (·.1) = false := by rfl) :
    PI X (.Tuple elts kk tpos) (.Call (.Name "zip" p) [e, e2, e3] [] pos) (iZip3 X.K ta) := by
  refine ⟨fun pins s σ H R I h => ?_⟩
  refine Call_ (ld_blt I hg hm PyProof.Rows.boot_zip (PyProof.Rows.callWith_type1 (thn (ha.run pos pins s σ H _ I h) fun us s1 ⟨vs, H1, I1, r1, q1⟩ => ?_) hs hpl))
  obtain ⟨a, b, c, xs, ys, zs, ex, ⟨hqx, hqy, hqz⟩, q⟩ := q1
  subst ex
  cases r1 with
  | cons r rr =>
    cases rr with
    | cons r' rr =>
      cases rr with
      | cons r'' rr =>
        cases rr
        cases r
        cases r'
        cases r''
        obtain ⟨its, rv, p1, _⟩ := I1.list hqx
        obtain ⟨its2, rv2, p2, _⟩ := I1.list hqy
        obtain ⟨its3, rv3, p3, _⟩ := I1.list hqz
        have la : a < s1.heap.objs.size := p1.lt
        have lb : b < s1.heap.objs.size := p2.lt
        have lc : c < s1.heap.objs.size := p3.lt
        refine zip_begins3 (begins_list a its.toArray) (begins_list b its2.toArray) (begins_list c its3.toArray) p1.isList p2.isList p3.isList fun h' hz hTI hTO h1 h2 h3 hsz hk => wpAny_pyIter_zip hz ?_
        have I2 : Inv X pins σ H1 { s1 with heap := h' } := I1.kept (t' := s1.toks) hk
        have sep : ZipSep3 (s1.heap.objs.size + 5) (s1.heap.objs.size + 3) (s1.heap.objs.size + 4) s1.heap.objs.size (s1.heap.objs.size + 1) (s1.heap.objs.size + 2) [s1.heap.objs.size, a] [s1.heap.objs.size + 1, b] [s1.heap.objs.size + 2, c] :=
          zip_sep3 (fun d hd => by rw [List.mem_singleton.mp hd]; exact la) (fun d hd => by rw [List.mem_singleton.mp hd]; exact lb) (fun d hd => by rw [List.mem_singleton.mp hd]; exact lc)
        refine ⟨s1.heap.objs.size + 5, [s1.heap.objs.size + 5, s1.heap.objs.size + 3, s1.heap.objs.size + 4, s1.heap.objs.size, s1.heap.objs.size + 1, s1.heap.objs.size + 2], _, _, H1, rfl, I2, turn_zip3 sep (Nat.ne_of_lt la) (Nat.ne_of_lt (Nat.lt_succ_of_lt lb)) (Nat.ne_of_lt (Nat.lt_succ_of_lt (Nat.lt_succ_of_lt lc))), ⟨⟨Nat.zero_le _, Nat.zero_le _, Nat.zero_le _⟩, hz, hTI, ⟨_, _, _, hTO⟩, ⟨_, h1, rfl, rfl⟩, ⟨_, h2, rfl, rfl⟩, ⟨_, h3, rfl, rfl⟩⟩, fun d hcm => ?_, q⟩
        have e' : d = s1.heap.objs.size + 5 ∨ d = s1.heap.objs.size + 3 ∨ d = s1.heap.objs.size + 4 ∨ d = s1.heap.objs.size ∨ d = s1.heap.objs.size + 1 ∨ d = s1.heap.objs.size + 2 := by simpa using hcm
        have hle : s1.heap.objs.size ≤ d := by
          rcases e' with z | z | z | z | z | z
          · rw [z]; exact Nat.le_add_right _ _
          · rw [z]; exact Nat.le_add_right _ _
          · rw [z]; exact Nat.le_add_right _ _
          · rw [z]; exact Nat.le_refl _
          · rw [z]; exact Nat.le_add_right _ _
          · rw [z]; exact Nat.le_add_right _ _
        exact I1.fpOk hle (I1.hok.fresh hle)
end TV0
namespace PySem.SeqAt
open AutoSeq1 (wpAny_loadPart')
open MeetsSeq
theorem dict_eq_declines_str (l : Addr) (b : Str) (u : Tok) :
    Meets (Builtin.«dict.__eq__» ⟨[.ref l, .str b u], []⟩) (fun _ R s => s.TypeIs (.ref l) "dict" ∧ R (.ok (.ret .notImplemented)) s) :=
  .of_wp fun prog w A R s h => by
    obtain ⟨da, h⟩ := h
    show wpAny _ _ (Builtin.Dict.dictSlotArgs "__eq__" ⟨[.ref l, .str b u], []⟩ >>= _) _ _ s
    refine wpAny_bind ?_
    unfold Builtin.Dict.dictSlotArgs
    refine wpAny_bind (wpAny_notOrdered_dict da ?_)
    show wpAny _ _ (pure (Value.ref l, Value.str b u)) _ _ s
    refine wpAny_pure ?_
    refine wpAny_bind (wpAny_isInstance (T := "str") (typeIs_str s b u) PySem.F.sub_str_dict ?_)
    simp only [Bool.not_false, if_true]
    exact wpAny_bind (wpAny_rule (wpAny_pure ⟨_, rfl, h⟩))
theorem dict_ne_declines_str (l : Addr) (b : Str) (u : Tok) :
    Meets (Builtin.«dict.__ne__» ⟨[.ref l, .str b u], []⟩) (fun _ R s => s.TypeIs (.ref l) "dict" ∧ R (.ok (.ret .notImplemented)) s) :=
  .of_wp fun prog w A R s h => by
    obtain ⟨da, h⟩ := h
    show wpAny _ _ (Builtin.Dict.dictSlotArgs "__ne__" ⟨[.ref l, .str b u], []⟩ >>= _) _ _ s
    refine wpAny_bind ?_
    unfold Builtin.Dict.dictSlotArgs
    refine wpAny_bind (wpAny_notOrdered_dict da ?_)
    show wpAny _ _ (pure (Value.ref l, Value.str b u)) _ _ s
    refine wpAny_pure ?_
    refine wpAny_bind (wpAny_isInstance (T := "str") (typeIs_str s b u) PySem.F.sub_str_dict ?_)
    simp only [Bool.not_false, if_true]
    exact wpAny_bind (wpAny_rule (wpAny_pure ⟨_, rfl, h⟩))
theorem str_eq_declines_dict (b : Str) (u : Tok) (l : Addr) (c : Value) (es : Array DictEntry) (ep : _) (dd : Option Addr) (sl : Array (Option Value)) :
    Meets (Builtin.«str.__eq__» ⟨[.str b u, .ref l], []⟩) (fun _ R s => s.heap.get? l = some { cls := c, dict := dd, data := .dict es ep, slots := sl } ∧ R (.ok (.ret .notImplemented)) s) :=
  .of_wp fun prog w A R s h => by obtain ⟨hp, g, d, tk, os⟩ := s; obtain ⟨hl, h⟩ := h; wp_walk using wpAny_loadPart' hl, wpAny_load hl; exact ⟨_, rfl, h⟩
theorem str_ne_declines_dict (b : Str) (u : Tok) (l : Addr) (c : Value) (es : Array DictEntry) (ep : _) (dd : Option Addr) (sl : Array (Option Value)) :
    Meets (Builtin.«str.__ne__» ⟨[.str b u, .ref l], []⟩) (fun _ R s => s.heap.get? l = some { cls := c, dict := dd, data := .dict es ep, slots := sl } ∧ R (.ok (.ret .notImplemented)) s) :=
  .of_wp fun prog w A R s h => by obtain ⟨hp, g, d, tk, os⟩ := s; obtain ⟨hl, h⟩ := h; wp_walk using wpAny_loadPart' hl, wpAny_load hl; exact ⟨_, rfl, h⟩
section
variable {A : Around} {s : Shared} {prog : Program} {w : World}
theorem RcAt.dict_str {K : Type} [DecidableEq K] {knd : KeyKind prog w K} {l : Addr} {kvs : List (K × Value)} (b : Str) (u : Tok) (hl : s.heap.DictOf knd l kvs) (hu : A.units < cLine) : RcAt A s (.ref l) (.str b u) false := fun prog w E Q h => by
  have da := hl.typeIs
  obtain ⟨⟨cls, dd, data, sl⟩, es, ep, ho, ⟨hc, hx1, hx2⟩, hd, _⟩ := id hl
  simp only at hc hd hx1 hx2
  subst hc hd hx1 hx2
  exact rc_eq_decline_or (k := false) da (typeIs_str s b u) (by decide) F.sub_str_dict F.slot_dict_eq F.slot_str_eq_refl
    (fun _ hq => call_meets F.slot_dict_eq da F.entry_dict_eq (F.args_dict_eq_2 _ _) (dict_eq_declines_str l b u) ⟨da, hq⟩)
    (fun _ hq => call_meets F.slot_str_eq_refl (typeIs_str s b u) F.entry_str_eq (F.args_str_eq_2 _ _) (str_eq_declines_dict b u l _ _ _ _ _) ⟨ho, hq⟩)
    (fun _ hq => wpAny_of_eq (rfl : isSame (.ref l) (.str b u) = pure false) hq) (.inr hu) h
theorem RcNeAt.dict_str {K : Type} [DecidableEq K] {knd : KeyKind prog w K} {l : Addr} {kvs : List (K × Value)} (b : Str) (u : Tok) (hl : s.heap.DictOf knd l kvs) (hu : A.units < cLine) : RcNeAt A s (.ref l) (.str b u) true := fun prog w E Q h => by
  have da := hl.typeIs
  obtain ⟨⟨cls, dd, data, sl⟩, es, ep, ho, ⟨hc, hx1, hx2⟩, hd, _⟩ := id hl
  simp only at hc hd hx1 hx2
  subst hc hd hx1 hx2
  exact rc_ne_decline_or (k := false) da (typeIs_str s b u) (by decide) F.sub_str_dict F.slot_dict_ne F.slot_str_ne_refl
    (fun _ hq => call_meets F.slot_dict_ne da F.entry_dict_ne (F.args_dict_ne_2 _ _) (dict_ne_declines_str l b u) ⟨da, hq⟩)
    (fun _ hq => call_meets F.slot_str_ne_refl (typeIs_str s b u) F.entry_str_ne (F.args_str_ne_2 _ _) (str_ne_declines_dict b u l _ _ _ _ _) ⟨ho, hq⟩)
    (fun _ hq => wpAny_of_eq (rfl : isSame (.ref l) (.str b u) = pure false) hq) (.inr hu) h
end
end PySem.SeqAt
namespace TV
open PySem PySem.Spec PyProof.Rows L2
section
variable {X : Cx}
/-- a dict is no str -/
def rEqDS : R2 := fun x y H Q => ∃ a kvs z, x = .ref a ∧ H a = some (.dK kvs) ∧ y = .str z ∧ Q (.bl false) H
def rNeDS : R2 := fun x y H Q => ∃ a kvs z, x = .ref a ∧ H a = some (.dK kvs) ∧ y = .str z ∧ Q (.bl true) H
theorem op_eqDS (hu : X.A.units < cLine) : OpR X (compareOp .Eq) rEqDS := by
  intro pins s σ H x y v u Q I rx ry h
  obtain ⟨a, kvs, z, rfl, ha, rfl, q⟩ := h
  obtain rfl : v = Value.ref a := rx
  obtain ⟨_, hd, vs, rv, dd⟩ := dk_of I.hok ha
  obtain ⟨t, rfl⟩ := ry
  exact SeqAt.RcAt.dict_str _ _ dd hu _ _ _ _ ⟨.bl false, H, I, rfl, q⟩
theorem op_neDS (hu : X.A.units < cLine) : OpR X (compareOp .NotEq) rNeDS := by
  intro pins s σ H x y v u Q I rx ry h
  obtain ⟨a, kvs, z, rfl, ha, rfl, q⟩ := h
  obtain rfl : v = Value.ref a := rx
  obtain ⟨_, hd, vs, rv, dd⟩ := dk_of I.hok ha
  obtain ⟨t, rfl⟩ := ry
  exact SeqAt.RcNeAt.dict_str _ _ dd hu _ _ _ _ ⟨.bl true, H, I, rfl, q⟩
end
end TV
namespace TV
open PySem PySem.Spec PyProof.Rows L2

/-- how a list stands: the def's own, shared (never changed any more), the law's script -/
inductive LK where
  | ow | sh | fz
  deriving DecidableEq

/-- a value as a tree -/
inductive D where
  | hole
  | non
  | bl (b : Bool)
  | int (i : Int)
  | str (x : Str)
  | tup (ds : List D)
  | lst (k : LK) (ds : List D)
  | dct

mutual
def D.share : D → D
  | .tup ds => .tup (shareL ds)
  | .lst .ow ds => .lst .sh (shareL ds)
  | .lst .sh ds => .lst .sh ds
  | .lst .fz ds => .lst .fz ds
  | .hole => .hole
  | .non => .non
  | .bl b => .bl b
  | .int i => .int i
  | .str x => .str x
  | .dct => .dct
def shareL : List D → List D
  | [] => []
  | d :: ds => d.share :: shareL ds
/-- no list of the def's own in it -/
def D.noOw : D → Bool
  | .tup ds => noOwL ds
  | .lst .ow _ => false
  | .lst .sh ds => noOwL ds
  | .lst .fz ds => noOwL ds
  | .hole => false
  | .non => true
  | .bl _ => true
  | .int _ => true
  | .str _ => true
  | .dct => true
def noOwL : List D → Bool
  | [] => true
  | d :: ds => d.noOw && noOwL ds
/-- no shared list in it -/
def D.noSh : D → Bool
  | .tup ds => noShL ds
  | .lst .ow ds => noShL ds
  | .lst .sh _ => false
  | .lst .fz ds => noShL ds
  | .hole => true
  | .non => true
  | .bl _ => true
  | .int _ => true
  | .str _ => true
  | .dct => true
def noShL : List D → Bool
  | [] => true
  | d :: ds => d.noSh && noShL ds
end

theorem shareL_map : ∀ ds : List D, shareL ds = ds.map D.share
  | [] => rfl
  | d :: ds => by rw [shareL, shareL_map ds, List.map_cons]
theorem noOwL_all : ∀ ds : List D, noOwL ds = ds.all D.noOw
  | [] => rfl
  | d :: ds => by rw [noOwL, noOwL_all ds, List.all_cons]
theorem noShL_all : ∀ ds : List D, noShL ds = ds.all D.noSh
  | [] => rfl
  | d :: ds => by rw [noShL, noShL_all ds, List.all_cons]

/-- a list that nobody changes: as it was handed in, or the module's own -/
def FzL (K : PySem.W.Frag) (H : Hp) (a : Addr) (vs : List V) : Prop := (∃ o, H a = some (.frz o (.lst vs))) ∨
  ∃ (o : Obj) (its : Array Value) (n : Nat), K.lookup a = some o ∧ o.cls = .type "list" ∧ o.dict = none ∧ o.data = .seq its n ∧ its.size ≤ sizeLine ∧ Vals vs its.toList
theorem FzL.sq {K : PySem.W.Frag} {H : Hp} {a : Addr} {vs : List V} (h : FzL K H a vs) : SqL K H a vs := h.elim (fun ⟨o, h⟩ => .inl (.inr ⟨o, h⟩)) .inr
mutual
/-- v is d in the heap H; fp: the own lists in it, sp: the shared ones -/
inductive Rep (K : PySem.W.Frag) (H : Hp) : V → D → List Addr → List Addr → Prop where
  | hole (v : V) : Rep K H v .hole [] []
  | non : Rep K H .non .non [] []
  | bl (b : Bool) : Rep K H (.bl b) (.bl b) [] []
  | int (i : Int) : Rep K H (.int i) (.int i) [] []
  | str (x : Str) : Rep K H (.str x) (.str x) [] []
  | tup {a : Addr} {vs : List V} {ds : List D} {fp sp : List Addr} : SqT K H a vs → Reps K H vs ds fp sp → Rep K H (.ref a) (.tup ds) fp sp
  | sh {a : Addr} {vs : List V} {ds : List D} {sp : List Addr} : H a = some (.lst vs) → Reps K H vs ds [] sp → Rep K H (.ref a) (.lst .sh ds) [] (a :: sp)
  | fz {a : Addr} {vs : List V} {ds : List D} {sp : List Addr} : FzL K H a vs → Reps K H vs ds [] sp → Rep K H (.ref a) (.lst .fz ds) [] sp
  | ow {a : Addr} {vs : List V} {ds : List D} {fp sp : List Addr} : H a = some (.lst vs) → Reps K H vs ds fp sp → Rep K H (.ref a) (.lst .ow ds) (a :: fp) sp
  | dct {a : Addr} {kvs : List (Key × V)} : H a = some (.dK kvs) → Rep K H (.ref a) .dct [] []
inductive Reps (K : PySem.W.Frag) (H : Hp) : List V → List D → List Addr → List Addr → Prop where
  | nil : Reps K H [] [] [] []
  | cons {v : V} {d : D} {vs : List V} {ds : List D} {f s fp sp : List Addr} : Rep K H v d f s → Reps K H vs ds fp sp → Reps K H (v :: vs) (d :: ds) (f ++ fp) (s ++ sp)
end

section
variable {K : PySem.W.Frag} {H H' : Hp}

theorem sqT_same {a : Addr} {vs : List V} (e : Same H H') (h : SqT K H a vs) : SqT K H' a vs := by
  rcases h with (h | ⟨o, h⟩) | h
  · exact .inl (.inl (e _ _ h))
  · exact .inl (.inr ⟨o, e _ _ h⟩)
  · exact .inr h

mutual
/-- what stands in the heap still stands: so does the tree -/
theorem Rep.same (e : Same H H') : ∀ {v d fp sp}, Rep K H v d fp sp → Rep K H' v d fp sp
  | _, _, _, _, .hole v => .hole v
  | _, _, _, _, .non => .non
  | _, _, _, _, .bl b => .bl b
  | _, _, _, _, .int i => .int i
  | _, _, _, _, .str x => .str x
  | _, _, _, _, .tup h r => .tup (sqT_same e h) (Reps.same e r)
  | _, _, _, _, .sh h r => .sh (e _ _ h) (Reps.same e r)
  | _, _, _, _, .fz h r => .fz (h.imp (fun ⟨o, h⟩ => ⟨o, e _ _ h⟩) id) (Reps.same e r)
  | _, _, _, _, .ow h r => .ow (e _ _ h) (Reps.same e r)
  | _, _, _, _, .dct h => .dct (e _ _ h)
theorem Reps.same (e : Same H H') : ∀ {vs ds fp sp}, Reps K H vs ds fp sp → Reps K H' vs ds fp sp
  | _, _, _, _, .nil => .nil
  | _, _, _, _, .cons h r => .cons (Rep.same e h) (Reps.same e r)
end

/-- a list that does not stand in the tree is changed -/
theorem sqT_upd {a p : Addr} {vs ws : List V} {o : HO} (hp : H p = some (.lst ws)) (h : SqT K H a vs) : SqT K (upd H p o) a vs := by
  rcases h with (h | ⟨o', h⟩) | h
  · exact .inl (.inl (by rw [upd_ne (ne_of h hp (fun z => by cases z))]; exact h))
  · exact .inl (.inr ⟨o', by rw [upd_ne (ne_of h hp (fun z => by cases z))]; exact h⟩)
  · exact .inr h
mutual
theorem Rep.upd {p : Addr} {ws : List V} {o : HO} (hp : H p = some (.lst ws)) : ∀ {v d fp sp}, Rep K H v d fp sp → p ∉ fp → p ∉ sp → Rep K (L2.upd H p o) v d fp sp
  | _, _, _, _, .hole v, _, _ => .hole v
  | _, _, _, _, .non, _, _ => .non
  | _, _, _, _, .bl b, _, _ => .bl b
  | _, _, _, _, .int i, _, _ => .int i
  | _, _, _, _, .str x, _, _ => .str x
  | _, _, _, _, .tup h r, n1, n2 => .tup (sqT_upd hp h) (Reps.upd hp r n1 n2)
  | _, _, _, _, .sh (a := a) h r, n1, n2 => .sh (by rw [upd_ne (fun z : a = p => n2 (z ▸ List.mem_cons_self))]; exact h) (Reps.upd hp r n1 fun z => n2 (List.mem_cons_of_mem _ z))
  | _, _, _, _, .fz h r, n1, n2 => .fz (h.imp (fun ⟨o, h⟩ => ⟨o, by rw [upd_ne (ne_of h hp (fun z => by cases z))]; exact h⟩) id) (Reps.upd hp r n1 n2)
  | _, _, _, _, .ow (a := a) h r, n1, n2 => .ow (by rw [upd_ne (fun z : a = p => n1 (z ▸ List.mem_cons_self))]; exact h) (Reps.upd hp r (fun z => n1 (List.mem_cons_of_mem _ z)) n2)
  | _, _, _, _, .dct h, _, _ => .dct (by rw [upd_ne (ne_of h hp (fun z => by cases z))]; exact h)
theorem Reps.upd {p : Addr} {ws : List V} {o : HO} (hp : H p = some (.lst ws)) : ∀ {vs ds fp sp}, Reps K H vs ds fp sp → p ∉ fp → p ∉ sp → Reps K (L2.upd H p o) vs ds fp sp
  | _, _, _, _, .nil, _, _ => .nil
  | _, _, _, _, .cons h r, n1, n2 => .cons (Rep.upd hp h (fun z => n1 (List.mem_append_left _ z)) fun z => n2 (List.mem_append_left _ z))
      (Reps.upd hp r (fun z => n1 (List.mem_append_right _ z)) fun z => n2 (List.mem_append_right _ z))
end

mutual
/-- an own list that is not changed any more -/
theorem Rep.share : ∀ {v d fp sp}, Rep K H v d fp sp → ∃ sp', Rep K H v d.share [] sp' ∧ ∀ a ∈ sp', a ∈ fp ∨ a ∈ sp
  | _, _, _, _, .hole v => ⟨[], .hole v, fun _ h => nomatch h⟩
  | _, _, _, _, .non => ⟨[], .non, fun _ h => nomatch h⟩
  | _, _, _, _, .bl b => ⟨[], .bl b, fun _ h => nomatch h⟩
  | _, _, _, _, .int i => ⟨[], .int i, fun _ h => nomatch h⟩
  | _, _, _, _, .str x => ⟨[], .str x, fun _ h => nomatch h⟩
  | _, _, _, _, .tup h r => let ⟨sp', r', k⟩ := Reps.share r; ⟨sp', .tup h r', k⟩
  | _, _, _, _, .sh h r => ⟨_, .sh h r, fun _ z => .inr z⟩
  | _, _, _, _, .fz h r => ⟨_, .fz h r, fun _ z => .inr z⟩
  | _, _, _, _, .ow h r => let ⟨sp', r', k⟩ := Reps.share r; ⟨_ :: sp', .sh h r', fun a z => by
      rcases List.mem_cons.mp z with e | z
      · exact .inl (e ▸ List.mem_cons_self)
      · exact (k a z).imp (List.mem_cons_of_mem _) id⟩
  | _, _, _, _, .dct h => ⟨[], .dct h, fun _ h => nomatch h⟩
theorem Reps.share : ∀ {vs ds fp sp}, Reps K H vs ds fp sp → ∃ sp', Reps K H vs (shareL ds) [] sp' ∧ ∀ a ∈ sp', a ∈ fp ∨ a ∈ sp
  | _, _, _, _, .nil => ⟨[], .nil, fun _ h => nomatch h⟩
  | _, _, _, _, .cons h r =>
    let ⟨s1, r1, k1⟩ := Rep.share h
    let ⟨s2, r2, k2⟩ := Reps.share r
    ⟨s1 ++ s2, .cons r1 r2, fun a z => (List.mem_append.mp z).elim (fun z => (k1 a z).imp (List.mem_append_left _) (List.mem_append_left _)) fun z => (k2 a z).imp (List.mem_append_right _) (List.mem_append_right _)⟩
end

theorem and2 {a b : Bool} (h : (a && b) = true) : a = true ∧ b = true := by
  cases a <;> cases b <;> simp_all

mutual
theorem Rep.noOw : ∀ {v d fp sp}, Rep K H v d fp sp → d.noOw = true → fp = []
  | _, _, _, _, .hole v, h => by simp [D.noOw] at h
  | _, _, _, _, .non, _ => rfl
  | _, _, _, _, .bl b, _ => rfl
  | _, _, _, _, .int i, _ => rfl
  | _, _, _, _, .str x, _ => rfl
  | _, _, _, _, .tup _ r, h => Reps.noOw r (by simpa [D.noOw] using h)
  | _, _, _, _, .sh _ r, _ => rfl
  | _, _, _, _, .fz _ r, _ => rfl
  | _, _, _, _, .ow _ r, h => by simp [D.noOw] at h
  | _, _, _, _, .dct _, _ => rfl
theorem Reps.noOw : ∀ {vs ds fp sp}, Reps K H vs ds fp sp → noOwL ds = true → fp = []
  | _, _, _, _, .nil, _ => rfl
  | _, _, _, _, .cons h r, e => by
    rw [noOwL] at e
    obtain ⟨e1, e2⟩ := and2 e
    rw [Rep.noOw h e1, Reps.noOw r e2]; rfl
end
mutual
theorem Rep.noSh : ∀ {v d fp sp}, Rep K H v d fp sp → d.noSh = true → sp = []
  | _, _, _, _, .hole v, h => rfl
  | _, _, _, _, .non, _ => rfl
  | _, _, _, _, .bl b, _ => rfl
  | _, _, _, _, .int i, _ => rfl
  | _, _, _, _, .str x, _ => rfl
  | _, _, _, _, .tup _ r, h => Reps.noSh r (by simpa [D.noSh] using h)
  | _, _, _, _, .sh _ r, h => by simp [D.noSh] at h
  | _, _, _, _, .fz _ r, h => Reps.noSh r (by simpa [D.noSh] using h)
  | _, _, _, _, .ow _ r, h => Reps.noSh r (by simpa [D.noSh] using h)
  | _, _, _, _, .dct _, _ => rfl
theorem Reps.noSh : ∀ {vs ds fp sp}, Reps K H vs ds fp sp → noShL ds = true → sp = []
  | _, _, _, _, .nil, _ => rfl
  | _, _, _, _, .cons h r, e => by
    rw [noShL] at e
    obtain ⟨e1, e2⟩ := and2 e
    rw [Rep.noSh h e1, Reps.noSh r e2]; rfl
end

mutual
theorem D.share_id : ∀ {d : D}, d.noOw = true → d.share = d
  | .hole, h => rfl
  | .non, _ => rfl
  | .bl _, _ => rfl
  | .int _, _ => rfl
  | .str _, _ => rfl
  | .tup ds, h => by rw [D.share, shareL_id (by simpa [D.noOw] using h)]
  | .lst .ow _, h => by simp [D.noOw] at h
  | .lst .sh _, _ => by rw [D.share]
  | .lst .fz _, _ => by rw [D.share]
  | .dct, _ => by rw [D.share]
theorem shareL_id : ∀ {ds : List D}, noOwL ds = true → shareL ds = ds
  | [], _ => rfl
  | d :: ds, h => by
    rw [noOwL] at h
    rw [shareL, D.share_id (and2 h).1, shareL_id (and2 h).2]
end

theorem Reps.length : ∀ {vs ds fp sp}, Reps K H vs ds fp sp → vs.length = ds.length
  | _, _, _, _, .nil => rfl
  | _, _, _, _, .cons _ r => by rw [List.length_cons, List.length_cons, Reps.length r]

theorem perm_mid {α : Type} (a b c : List α) : (a ++ (b ++ c)).Perm (b ++ (a ++ c)) := by
  rw [← List.append_assoc, ← List.append_assoc]
  exact List.Perm.append_right c List.perm_append_comm

/-- one of them, and the others -/
theorem Reps.get : ∀ {vs ds fp sp} {i : Nat} {d : D}, Reps K H vs ds fp sp → ds[i]? = some d →
    ∃ v f s fr sr, vs[i]? = some v ∧ Rep K H v d f s ∧ fp.Perm (f ++ fr) ∧ sp.Perm (s ++ sr)
  | _, _, _, _, i, d, .nil, h => by simp at h
  | _, _, _, _, 0, d, .cons (f := f) (s := s) (fp := fp) (sp := sp) h r, e => by
    have e' : _ = d := Option.some.inj e
    subst e'
    exact ⟨_, f, s, fp, sp, rfl, h, .refl _, .refl _⟩
  | _, _, _, _, i + 1, d, .cons (f := f0) (s := s0) h r, e => by
    obtain ⟨v, f, s, fr, sr, e1, e2, p1, p2⟩ := Reps.get (i := i) r e
    exact ⟨v, f, s, f0 ++ fr, s0 ++ sr, e1, e2, (List.Perm.append_left f0 p1).trans (perm_mid f0 f fr), (List.Perm.append_left s0 p2).trans (perm_mid s0 s sr)⟩
/-- .. and another in its place -/
theorem Reps.set : ∀ {vs ds fp sp} {i : Nat} {d : D}, Reps K H vs ds fp sp → ds[i]? = some d →
    ∃ v f s fr sr, vs[i]? = some v ∧ Rep K H v d f s ∧ fp.Perm (f ++ fr) ∧ sp.Perm (s ++ sr) ∧
      ∀ v' d' f' s' (H' : Hp), (∀ {v d f s}, (∀ a ∈ f, a ∈ fr) → (∀ a ∈ s, a ∈ sr) → Rep K H v d f s → Rep K H' v d f s) → Rep K H' v' d' f' s' →
        ∃ fp' sp', Reps K H' (vs.set i v') (ds.set i d') fp' sp' ∧ fp'.Perm (f' ++ fr) ∧ sp'.Perm (s' ++ sr)
  | _, _, _, _, i, d, .nil, h => by simp at h
  | _, _, _, _, 0, d, .cons (v := v) (f := f) (s := s) (vs := vs) (ds := ds) (fp := fp) (sp := sp) h r, e => by
    have e' : _ = d := Option.some.inj e
    subst e'
    refine ⟨_, f, s, fp, sp, rfl, h, .refl _, .refl _, fun v' d' f' s' H' k h' => ⟨_, _, .cons h' ?_, .refl _, .refl _⟩⟩
    have : ∀ {vs ds f s}, (∀ a ∈ f, a ∈ fp) → (∀ a ∈ s, a ∈ sp) → Reps K H vs ds f s → Reps K H' vs ds f s := by
      intro vs ds f s h1 h2 r
      induction r using Reps.rec (motive_1 := fun _ _ _ _ _ => True) with
      | nil => exact .nil
      | cons a b ih1 ih2 =>
        exact .cons (k (fun a z => h1 a (List.mem_append_left _ z)) (fun a z => h2 a (List.mem_append_left _ z)) a) (ih2 (fun a z => h1 a (List.mem_append_right _ z)) fun a z => h2 a (List.mem_append_right _ z))
      | _ => trivial
    exact this (fun _ z => z) (fun _ z => z) r
  | _, _, _, _, i + 1, d, .cons (f := f0) (s := s0) h r, e => by
    obtain ⟨v, f, s, fr, sr, e1, e2, p1, p2, k⟩ := Reps.set (i := i) r e
    refine ⟨v, f, s, f0 ++ fr, s0 ++ sr, e1, e2, (List.Perm.append_left f0 p1).trans (perm_mid f0 f fr), (List.Perm.append_left s0 p2).trans (perm_mid s0 s sr), fun v' d' f' s' H' hk h' => ?_⟩
    obtain ⟨fp', sp', r', q1, q2⟩ := k v' d' f' s' H' (fun h1 h2 r => hk (fun a z => List.mem_append_right _ (h1 a z)) (fun a z => List.mem_append_right _ (h2 a z)) r) h'
    exact ⟨_, _, .cons (hk (fun a z => List.mem_append_left _ z) (fun a z => List.mem_append_left _ z) h) r', (List.Perm.append_left f0 q1).trans (perm_mid f0 f' fr), (List.Perm.append_left s0 q2).trans (perm_mid s0 s' sr)⟩

theorem Reps.append : ∀ {vs ds fp sp ws es fq sq}, Reps K H vs ds fp sp → Reps K H ws es fq sq → Reps K H (vs ++ ws) (ds ++ es) (fp ++ fq) (sp ++ sq)
  | _, _, _, _, _, _, _, _, .nil, r => r
  | _, _, _, _, _, _, _, _, .cons h r, q => by
    rw [List.append_assoc, List.append_assoc]
    exact .cons h (Reps.append r q)
theorem Reps.split : ∀ {vs ds es fp sp}, Reps K H vs (ds ++ es) fp sp → ∃ va vb fa fb sa sb, vs = va ++ vb ∧ fp = fa ++ fb ∧ sp = sa ++ sb ∧ Reps K H va ds fa sa ∧ Reps K H vb es fb sb
  | vs, [], es, fp, sp, r => ⟨[], vs, [], fp, [], sp, rfl, rfl, rfl, .nil, r⟩
  | _, d :: ds, es, _, _, .cons (f := f) (s := s) h r => by
    obtain ⟨va, vb, fa, fb, sa, sb, rfl, rfl, rfl, r1, r2⟩ := Reps.split r
    exact ⟨_ :: va, vb, f ++ fa, fb, s ++ sa, sb, rfl, (List.append_assoc ..).symm, (List.append_assoc ..).symm, .cons h r1, r2⟩
end
end TV
namespace TV
open PySem PySem.Spec PyProof.Rows L2

inductive Tg where
  | one (i : Nat)
  | many (is : List Nat)

inductive Bi where
  | abs | int | str | len | list | sum | max | min | all
  deriving DecidableEq
def Bi.name : Bi → Str
  | .abs => "abs"
  | .int => "int"
  | .str => "str"
  | .len => "len"
  | .list => "list"
  | .sum => "sum"
  | .max => "max"
  | .min => "min"
  | .all => "all"
inductive Ty where
  | int | bool | str | list | tuple
  deriving DecidableEq
def Ty.name : Ty → String
  | .int => "int"
  | .bool => "bool"
  | .str => "str"
  | .list => "list"
  | .tuple => "tuple"
mutual
inductive E where
  | mv (i : Nat) | fr (i : Nat) | bo (i : Nat)
  | lit (d : D) | glb (x : Str) | shr (e : E)
  | bin (op : Operator) (a b : E) | neg (a : E) | not (a : E) | and (a b : E) | or (a b : E)
  | cmp (op : CmpOp) (a b : E)
  | ix (a i : E) | pth (i : Nat) (k j : E) | sl (a : E) (lo hi : Eo)
  | tup (es : Es) | lst (es : Es)
  | call (f : Str) (es : Es) | bi (f : Bi) (es : Es) | mt (m : Str) (a : E) (es : Es) | isi (a : E) (c : Ty)
  | pop (i : Nat)
  | lrv (e : E) | lrg (a : E)
  | lc (elt : E) (tg : Tg) (it : Itr) (cond : Eo) (own : List Nat)
inductive Es where
  | nil | cons (e : E) (es : Es)
inductive Eo where
  | no | so (e : E)
inductive Itr where
  | list (e : E) | rg1 (a : E) | rg2 (a b : E) | rg3 (a b c : E) | rev (e : E) | zip (es : Es) | enum (e : E) | str (e : E) | tupi (e : E) | brw (i : Nat)
end
/-- a list of the def's own, walked and put back -/
def Itr.bk : Itr → Option Nat
  | .brw i => some i
  | _ => none

/-- what an except suite notes of its exception: is it of these classes, or not (true) -/
inductive Hk where
  | set (j : Nat) (cs : List (Bool × Str)) | add (j : Nat) (cs : List (Bool × Str))
inductive Mt where
  | append | extend | clear | pop | insert
  deriving DecidableEq
mutual
inductive S where
  | asg (i : Nat) (e : E)
  | unp (is : List Nat) (e : E)
  | par (i j : Nat) (a b : E)
  | swp (i : Nat) (a b c d : E)
  | set1 (i : Nat) (k : E) (e : E)
  | set2 (i : Nat) (k1 k : E) (e : E)
  | aug (i : Nat) (op : Operator) (e : E)
  | mut0 (m : Mt) (i : Nat) (es : Es)
  | mut1 (m : Mt) (i : Nat) (k : E) (es : Es)
  | ex (e : E)
  | ifs (c : E) (a b : Ss)
  | whl (c : E) (b : Ss)
  | frs (tg : Tg) (it : Itr) (b : Ss)
  | scn (i : Nat) (tg : Tg) (c : E) (d : D)
  | ret (e : E)
  | rse (c : Str)
  | try1 (b : Ss) (c : Str) (h : List (Nat × D))
  | try2 (b : Ss) (c : Str) (i : Nat) (h : List Hk)
  | brk | cnt | pas
  | kil (is : List Nat)
inductive Ss where
  | nil | cons (s : S) (ss : Ss)
end

abbrev Env := List D
def putBack (o : Option Nat) (held : List D) (env : Env) : Env := match o, held with
  | some i, d :: _ => env.set i d
  | _, _ => env
/-- a value, or what stands in a slot, just looked at -/
inductive Tm where
  | val (d : D) | bor (i : Nat)
inductive R (α : Type) where
  | ok (a : α) (env : Env) | ex (c : Str) (env : Env)
abbrev Out (α : Type) := Option (R α)
inductive SRes where
  | nx (env : Env) | rt (d : D) | bk (env : Env) | ct (env : Env) | ex (c : Str) (env : Env)
inductive CRes where
  | ok (d : D) | ex (c : Str)

def bnd {α β : Type} (x : Out α) (f : α → Env → Out β) : Out β :=
  match x with
  | none => none
  | some (.ex c e) => some (.ex c e)
  | some (.ok a e) => f a e
def sbnd {α : Type} (x : Out α) (f : α → Env → Option SRes) : Option SRes :=
  match x with
  | none => none
  | some (.ex c e) => some (.ex c e)
  | some (.ok a e) => f a e
def obnd {α β : Type} (x : Option α) (f : α → Out β) : Out β :=
  match x with
  | none => none
  | some a => f a

/-- what a run looks at that is no value: sizes -/
structure Lim where
  mul : Int → Int → Bool
  len : Nat → Bool
  eq : D → Bool
  rng : Int → Bool
  dig : Int → Bool
def ideal : Lim := ⟨fun _ _ => true, fun _ => true, fun _ => true, fun _ => true, fun _ => true⟩

/-- which classes catch which; is an exception of the first class one of the second -/
structure Xs where
  c : Str → Str → Bool
  k : Str → Str → Option Bool
instance : CoeFun Xs (fun _ => Str → Str → Bool) := ⟨Xs.c⟩
structure Ctx where
  L : Lim
  call : Str → List D → Option CRes
  isDef : Str → Nat → Bool
  /-- is an exception of the first class caught by the second's name -/
  exc : Xs
  glb : Str → Option D

/-- what is seen at a term -/
def res (env : Env) : Tm → Option D
  | .val d => some d
  | .bor i => match env[i]? with
    | some .hole => none
    | some d => some d.share
    | none => none
/-- .. as it stands -/
def raw (env : Env) : Tm → Option D
  | .val d => some d
  | .bor i => env[i]?

mutual
def D.py : D → PyData
  | .hole => .none
  | .non => .none
  | .bl b => .bool b
  | .int i => .int i
  | .str x => .str x
  | .tup ds => .tuple (pyL ds)
  | .lst _ ds => .list (pyL ds)
  | .dct => .none
def pyL : List D → List PyData
  | [] => []
  | d :: ds => d.py :: pyL ds
end
def eqD (a b : D) : Bool := PyData.eqv a.py b.py
mutual
def D.whole : D → Bool
  | .hole => false
  | .tup ds => wholeL ds
  | .lst _ ds => wholeL ds
  | .non => true
  | .bl _ => true
  | .int _ => true
  | .str _ => true
  | .dct => false
def wholeL : List D → Bool
  | [] => true
  | d :: ds => d.whole && wholeL ds
end

def opBin (L : Lim) : Operator → D → D → Option D
  | .Add, .int i, .int j => some (.int (i + j))
  | .Sub, .int i, .int j => some (.int (i - j))
  | .Mult, .int i, .int j => bif L.mul i j then some (.int (i * j)) else none
  | .FloorDiv, .int i, .int j => if j = 0 then none else some (.int (i.fdiv j))
  | .Mod, .int i, .int j => if j = 0 then none else some (.int (i.fmod j))
  | .Pow, .int i, .int j => if 0 ≤ j ∧ j ≤ 1000 ∧ i.natAbs < 1000 then some (.int (i ^ j.toNat)) else none
  | .Add, .str x, .str y => bif L.len (x.length + y.length) then some (.str (x ++ y)) else none
  | .Add, .lst .ow xs, .lst .ow ys => bif noOwL xs && noOwL ys && L.len (xs.length + ys.length) then some (.lst .ow (xs ++ ys)) else none
  | .Add, .lst .ow xs, .lst .sh ys => bif noOwL xs && noOwL ys && L.len (xs.length + ys.length) then some (.lst .ow (xs ++ ys)) else none
  | .Add, .lst .sh xs, .lst .ow ys => bif noOwL xs && noOwL ys && L.len (xs.length + ys.length) then some (.lst .ow (xs ++ ys)) else none
  | .Add, .lst .sh xs, .lst .sh ys => bif noOwL xs && noOwL ys && L.len (xs.length + ys.length) then some (.lst .ow (xs ++ ys)) else none
  | .Mult, .lst .ow xs, .int k => bif noOwL xs && L.rng k && L.len (xs.length * k.toNat) then some (.lst .ow (List.replicate k.toNat xs).flatten) else none
  | _, _, _ => none

/-- is x of this kind -/
def isD : D → Ty → Option Bool
  | .hole, _ => none
  | .bl _, .bool => some true
  | .bl _, .int => some true
  | .int _, .int => some true
  | .str _, .str => some true
  | .tup _, .tuple => some true
  | .lst _ _, .list => some true
  | .dct, .str => some false
  | .dct, _ => none
  | _, _ => some false

def atom : D → Bool
  | .non => true
  | .bl _ => true
  | .int _ => true
  | .str _ => true
  | _ => false

/-- what may stand as a literal -/
def litD : D → Bool
  | .non => true
  | .bl _ => true
  | .int _ => true
  | .str _ => true
  | .dct => true
  | _ => false

def opCmp (L : Lim) : CmpOp → D → D → Option D
  | .Lt, .int i, .int j => some (.bl (decide (i < j)))
  | .LtE, .int i, .int j => some (.bl (decide (i ≤ j)))
  | .Gt, .int i, .int j => some (.bl (decide (j < i)))
  | .GtE, .int i, .int j => some (.bl (decide (j ≤ i)))
  | .Eq, .dct, .str _ => some (.bl false)
  | .NotEq, .dct, .str _ => some (.bl true)
  | .Eq, a, b => bif a.whole && b.whole && L.eq a && L.eq b then some (.bl (eqD a b)) else none
  | .NotEq, a, b => bif a.whole && b.whole && L.eq a && L.eq b then some (.bl (!eqD a b)) else none
  | .Is, .bl a, .bl b => some (.bl (a == b))
  | .IsNot, .bl a, .bl b => some (.bl (a != b))
  | .Is, .hole, .non => none
  | .IsNot, .hole, .non => none
  | .Is, .non, .non => some (.bl true)
  | .IsNot, .non, .non => some (.bl false)
  | .Is, _, .non => some (.bl false)
  | .IsNot, _, .non => some (.bl true)
  | .In, a, .tup ds => bif a.whole && wholeL ds && L.eq a && L.eq (.lst .sh ds) && atom a && ds.all atom then some (.bl (ds.any fun z => eqD z a)) else none
  | .NotIn, a, .tup ds => bif a.whole && wholeL ds && L.eq a && L.eq (.lst .sh ds) && atom a && ds.all atom then some (.bl (!ds.any fun z => eqD z a)) else none
  | .In, a, .lst _ ds => bif a.whole && wholeL ds && L.eq a && L.eq (.lst .sh ds) then some (.bl (ds.any fun z => eqD z a)) else none
  | .NotIn, a, .lst _ ds => bif a.whole && wholeL ds && L.eq a && L.eq (.lst .sh ds) then some (.bl (!ds.any fun z => eqD z a)) else none
  | .In, .str ⟨⟨[c]⟩⟩, .str z => some (.bl (decide (c ∈ z.cps.toList)))
  | .NotIn, .str ⟨⟨[c]⟩⟩, .str z => some (.bl (!decide (c ∈ z.cps.toList)))
  | _, _, _ => none

/-- x[i] -/
def ixD (L : Lim) (tm : Tm) (d k : D) : Option D :=
  match d, k with
  | .tup ds, .int i => (atI ds i).bind fun e => match tm with
    | .val _ => if e.whole then some e else none
    | .bor _ => if e.noOw then some e else none
  | .lst _ ds, .int i => (atI ds i).bind fun e => match tm with
    | .val _ => if e.whole then some e else none
    | .bor _ => if e.noOw then some e else none
  | .str x, .int i => bif L.len x.length then (atI x.cps.toList i).map fun c => .str ⟨#[c]⟩ else none
  | _, _ => none

def cutD (ds : List D) (lo hi : Option Int) : List D := (ds.drop (HT.sIx ds.length 0 lo)).take (HT.sIx ds.length ds.length hi - HT.sIx ds.length 0 lo)
def slD (L : Lim) (d : D) (lo hi : Option Int) : Option D :=
  match d with
  | .lst _ ds => if noOwL ds then some (.lst .ow (cutD ds lo hi)) else none
  | .str x => bif L.len x.length then some (.str (cutS x lo hi)) else none
  | _ => none

def intsOf : List D → Option (List Int)
  | [] => some []
  | .int i :: ds => (intsOf ds).map (i :: ·)
  | _ => none
def boolsOf : List D → Option (List Bool)
  | [] => some []
  | .bl i :: ds => (boolsOf ds).map (i :: ·)
  | _ => none
def listGreatest : List Int → Int
  | [] => 0
  | [x] => x
  | x :: xs => max x (listGreatest xs)
def listLeast : List Int → Int
  | [] => 0
  | [x] => x
  | x :: xs => min x (listLeast xs)

/-- built-ins by values -/
def biAbs : List D → Option D
  | [.int i] => some (.int (if i < 0 then -i else i))
  | _ => none
def biInt : List D → Option D
  | [.int i] => some (.int i)
  | [.bl b] => some (.int (if b then 1 else 0))
  | _ => none
def biStr (L : Lim) : List D → Option D
  | [.int i] => bif L.dig i then some (.str (toString i)) else none
  | _ => none
def biLen (L : Lim) : List D → Option D
  | [.lst _ ds] => some (.int ds.length)
  | [.tup ds] => some (.int ds.length)
  | [.str x] => bif L.len x.length then some (.int x.length) else none
  | _ => none
def biList : List D → Option D
  | [.lst _ ds] => if noOwL ds then some (.lst .ow ds) else none
  | _ => none
def biSum : List D → Option D
  | [.lst _ ds] => (intsOf ds).map fun ns => .int ns.sum
  | _ => none
def biMax : List D → Option D
  | [.int i, .int j] => some (.int (if j > i then j else i))
  | [.lst _ ds] => (intsOf ds).bind fun ns => if ns.isEmpty then none else some (.int (listGreatest ns))
  | _ => none
def biMin : List D → Option D
  | [.int i, .int j] => some (.int (if j < i then j else i))
  | [.lst _ ds] => (intsOf ds).bind fun ns => if ns.isEmpty then none else some (.int (listLeast ns))
  | _ => none
def biAll : List D → Option D
  | [.lst _ ds] => (boolsOf ds).map fun bs => .bl (bs.all id)
  | _ => none
def opBi (L : Lim) : Bi → List D → Option D
  | .abs => biAbs
  | .int => biInt
  | .str => biStr L
  | .len => biLen L
  | .list => biList
  | .sum => biSum
  | .max => biMax
  | .min => biMin
  | .all => biAll
def opNeg : D → Option D
  | .int i => some (.int (-i))
  | _ => none
def opNot : D → Option D
  | .bl b => some (.bl (!b))
  | _ => none

/-- names that take values, one after another -/
def putE : List Nat → List D → Env → Env
  | i :: is, d :: ds, env => putE is ds (env.set i d)
  | _, _, env => env
/-- the targets of a for or a comprehension -/
def setTg (tg : Tg) (d : D) (env : Env) : Option Env :=
  match tg with
  | .one i => some (env.set i d)
  | .many is => match d with
    | .tup ds => if ds.length = is.length then some (putE is ds env) else none
    | _ => none
def kill (is : List Nat) (env : Env) : Env := is.foldl (fun env i => env.set i .hole) env

/-- the slots of a list of terms as seen -/
def resL (env : Env) : List Tm → Option (List D)
  | [] => some []
  | t :: ts => (res env t).bind fun d => (resL env ts).map (d :: ·)
def rawL (env : Env) : List Tm → Option (List D)
  | [] => some []
  | t :: ts => (raw env t).bind fun d => (rawL env ts).map (d :: ·)
def anyBor : List Tm → Bool
  | [] => false
  | .bor _ :: _ => true
  | .val _ :: ts => anyBor ts
def valsL : List Tm → Option (List D)
  | [] => some []
  | .val d :: ts => (valsL ts).map (d :: ·)
  | .bor _ :: _ => none

def compGo (f : D → Env → Out (Option D)) : List D → Env → Option (List D × Env)
  | [], env => some ([], env)
  | d :: ds, env => match f d env with
    | some (.ok o env1) => match compGo f ds env1 with
      | some (r, env2) => some (match o with | some x => x :: r | none => r, env2)
      | none => none
    | _ => none

/-- the range's turns -/
def rgD (lo : Int) (n : Nat) (c : Int) : List D := (List.range n).map fun (k : Nat) => D.int (lo + (k : Int) * c)
def rgN (i j c : Int) : Nat := (Builtin.Range.rangeSize i j c).toNat
def rgSteps : List Int := [-1, 2, 3, 4, 12]
def enumD (n : Nat) : List D → List D
  | [] => []
  | d :: ds => .tup [.int n, d] :: enumD (n + 1) ds
def zip2D : List D → List D → List D
  | a :: as, b :: bs => .tup [a, b] :: zip2D as bs
  | _, _ => []
def zip3D : List D → List D → List D → List D
  | a :: as, b :: bs, c :: cs => .tup [a, b, c] :: zip3D as bs cs
  | _, _, _ => []
def itemsOf : List D → Option (List D × List D)
  | [.lst k1 a, .lst k2 b] => if noOwL a && noOwL b then some ([.lst k1 a, .lst k2 b], zip2D a b) else none
  | [.lst k1 a, .lst k2 b, .lst k3 c] => if noOwL a && noOwL b && noOwL c then some ([.lst k1 a, .lst k2 b, .lst k3 c], zip3D a b c) else none
  | _ => none

section
variable (C : Ctx)
mutual
def evE : E → Env → Out Tm
  | .mv i, env => match env[i]? with
    | some .hole => none
    | some d => some (.ok (.val d) (env.set i .hole))
    | none => none
  | .fr i, env => match env[i]? with
    | some .hole => none
    | some d => some (.ok (.val d.share) (env.set i d.share))
    | none => none
  | .bo i, env => match env[i]? with
    | some .hole => none
    | some _ => some (.ok (.bor i) env)
    | none => none
  | .lit d, env => if litD d then some (.ok (.val d) env) else none
  | .glb x, env => match C.glb x with
    | some d => some (.ok (.val d) env)
    | none => none
  | .shr e, env => bnd (evE e env) fun t env1 => match t with
    | .val d => some (.ok (.val d.share) env1)
    | .bor _ => none
  | .bin op a b, env => bnd (evE a env) fun t1 e1 => bnd (evE b e1) fun t2 e2 => obnd (raw e2 t1) fun x => obnd (raw e2 t2) fun y => obnd (opBin C.L op x y) fun z => some (.ok (.val z) e2)
  | .neg a, env => bnd (evE a env) fun t e1 => obnd (raw e1 t) fun x => obnd (opNeg x) fun z => some (.ok (.val z) e1)
  | .not a, env => bnd (evE a env) fun t e1 => obnd (raw e1 t) fun x => obnd (opNot x) fun z => some (.ok (.val z) e1)
  | .and a b, env => bnd (evE a env) fun t e1 => match raw e1 t with
    | some (.bl true) => bnd (evE b e1) fun t2 e2 => match raw e2 t2 with
      | some (.bl y) => some (.ok (.val (.bl y)) e2)
      | _ => none
    | some (.bl false) => some (.ok (.val (.bl false)) e1)
    | _ => none
  | .or a b, env => bnd (evE a env) fun t e1 => match raw e1 t with
    | some (.bl false) => bnd (evE b e1) fun t2 e2 => match raw e2 t2 with
      | some (.bl y) => some (.ok (.val (.bl y)) e2)
      | _ => none
    | some (.bl true) => some (.ok (.val (.bl true)) e1)
    | _ => none
  | .cmp op a b, env => bnd (evE a env) fun t1 e1 => bnd (evE b e1) fun t2 e2 => obnd (res e2 t1) fun x => obnd (res e2 t2) fun y => obnd (opCmp C.L op x y) fun z => some (.ok (.val z) e2)
  | .ix a i, env => bnd (evE a env) fun t1 e1 => bnd (evE i e1) fun t2 e2 => obnd (raw e2 t1) fun x => obnd (raw e2 t2) fun k => obnd (ixD C.L t1 x k) fun z => some (.ok (.val z) e2)
  | .pth i k j, env => bnd (evE k env) fun t1 e1 => bnd (evE j e1) fun t2 e2 => obnd (raw e2 (.bor i)) fun x => obnd (raw e2 t1) fun y => obnd (raw e2 t2) fun z =>
      match x, y, z with
      | .lst _ ds, .int n, .int m => match atI ds n with
        | some (.lst _ es) => match atI es m with
          | some d => if d.noOw then some (.ok (.val d) e2) else none
          | none => none
        | _ => none
      | _, _, _ => none
  | .sl a lo hi, env => bnd (evE a env) fun t e1 => bnd (evEo lo e1) fun l e2 => bnd (evEo hi e2) fun h e3 => obnd (raw e3 t) fun x => obnd (slD C.L x l h) fun z => some (.ok (.val z) e3)
  | .tup es, env => bnd (evEs es env) fun ts e1 => obnd (valsL ts) fun ds => some (.ok (.val (.tup ds)) e1)
  | .lst es, env => bnd (evEs es env) fun ts e1 => obnd (valsL ts) fun ds => some (.ok (.val (.lst .ow ds)) e1)
  | .call f es, env => bnd (evEs es env) fun ts e1 => obnd (resL e1 ts) fun ds => match C.call f (shareL ds) with
    | some (.ok d) => if anyBor ts && !d.noSh then none else some (.ok (.val d) e1)
    | some (.ex c) => some (.ex c e1)
    | none => none
  | .bi f es, env => bnd (evEs es env) fun ts e1 => obnd (rawL e1 ts) fun ds => obnd (opBi C.L f ds) fun z => some (.ok (.val z) e1)
  | .mt m a es, env => none
  | .isi a c, env => bnd (evE a env) fun t e1 => obnd (res e1 t) fun x => obnd (isD x c) fun b => some (.ok (.val (.bl b)) e1)
  | .pop i, env => match env[i]? with
    | some (.lst .ow ds) => match ds.getLast? with
      | some d => if d.whole then some (.ok (.val d) (env.set i (.lst .ow ds.dropLast))) else none
      | none => none
    | _ => none
  | .lrv e, env => bnd (evE e env) fun t e1 => match raw e1 t with
    | some (.lst _ ds) => if noOwL ds then some (.ok (.val (.lst .ow ds.reverse)) e1) else none
    | _ => none
  | .lrg a, env => bnd (evE a env) fun t e1 => match raw e1 t with
    | some (.int j) => bif C.L.rng j && C.L.len j.toNat then some (.ok (.val (.lst .ow (rgD 0 j.toNat 1))) e1) else none
    | _ => none
  | .lc elt tg it cond own, env => bnd (evIt it env) fun p e1 => bif C.L.len p.2.length then
      match compGo (fun d env => obnd (setTg tg d (kill own env)) fun e2 => bnd (evC cond e2) fun b e3 =>
        if b then bnd (evE elt e3) fun t e4 => match t with
          | .val x => some (.ok (some x) e4)
          | .bor _ => none
        else some (.ok none e3)) p.2 e1 with
      | some (ds, e5) => some (.ok (.val (.lst .ow ds)) (putBack it.bk p.1 (kill own e5)))
      | none => none
    else none
def evEs : Es → Env → Out (List Tm)
  | .nil, env => some (.ok [] env)
  | .cons e es, env => bnd (evE e env) fun t e1 => bnd (evEs es e1) fun ts e2 => some (.ok (t :: ts) e2)
/-- an optional bound -/
def evEo : Eo → Env → Out (Option Int)
  | .no, env => some (.ok none env)
  | .so e, env => bnd (evE e env) fun t e1 => match raw e1 t with
    | some (.int i) => some (.ok (some i) e1)
    | _ => none
/-- an optional test -/
def evC : Eo → Env → Out Bool
  | .no, env => some (.ok true env)
  | .so e, env => bnd (evE e env) fun t e1 => match raw e1 t with
    | some (.bl b) => some (.ok b e1)
    | _ => none
/-- what is walked: the things that are held meanwhile, the items -/
def evIt : Itr → Env → Out (List D × List D)
  | .list e, env => bnd (evE e env) fun t e1 => match t with
    | .val (.lst k ds) => if noOwL ds then some (.ok ([.lst k ds], ds) e1) else none
    | _ => none
  | .rg1 a, env => bnd (evE a env) fun t e1 => match raw e1 t with
    | some (.int j) => bif C.L.rng j then some (.ok ([], rgD 0 j.toNat 1) e1) else none
    | _ => none
  | .rg2 a b, env => bnd (evE a env) fun t1 e1 => bnd (evE b e1) fun t2 e2 => match raw e2 t1, raw e2 t2 with
    | some (.int i), some (.int j) => bif C.L.rng i && C.L.rng j then some (.ok ([], rgD i (j - i).toNat 1) e2) else none
    | _, _ => none
  | .rg3 a b c, env => bnd (evE a env) fun t1 e1 => bnd (evE b e1) fun t2 e2 => bnd (evE c e2) fun t3 e3 => match raw e3 t1, raw e3 t2, raw e3 t3 with
    | some (.int i), some (.int j), some (.int k) => bif C.L.rng i && C.L.rng j && rgSteps.contains k then some (.ok ([], rgD i (rgN i j k) k) e3) else none
    | _, _, _ => none
  | .rev e, env => bnd (evE e env) fun t e1 => match t with
    | .val (.lst k ds) => if noOwL ds then some (.ok ([.lst k ds], ds.reverse) e1) else none
    | _ => none
  | .zip es, env => bnd (evEs es env) fun ts e1 => obnd (valsL ts) fun ds => obnd (itemsOf ds) fun p => some (.ok p e1)
  | .enum e, env => bnd (evE e env) fun t e1 => match t with
    | .val (.lst k ds) => if noOwL ds then some (.ok ([.lst k ds], enumD 0 ds) e1) else none
    | _ => none
  | .str e, env => bnd (evE e env) fun t e1 => match raw e1 t with
    | some (.str x) => some (.ok ([], x.cps.toList.map fun c => .str ⟨#[c]⟩) e1)
    | _ => none
  | .brw i, env => match env[i]? with
    | some (.lst .ow ds) => if noOwL ds then some (.ok ([.lst .ow ds], ds) (env.set i .hole)) else none
    | _ => none
  | .tupi e, env => bnd (evE e env) fun t e1 => match t with
    | .val (.tup ds) => if noOwL ds then some (.ok ([.tup ds], ds) e1) else none
    | _ => none
end

def asB (env : Env) (t : Tm) : Option Bool :=
  match raw env t with
  | some (.bl b) => some b
  | _ => none

def whN (c : Env → Out Tm) (b : Env → Option SRes) : Nat → Env → Option SRes
  | 0, _ => none
  | n + 1, env => sbnd (c env) fun t e1 => match asB e1 t with
    | some true => match b e1 with
      | some (.nx e) => whN c b n e
      | some (.ct e) => whN c b n e
      | some (.bk e) => some (.nx e)
      | some (.rt d) => some (.rt d)
      | some (.ex x e) => some (.ex x e)
      | none => none
    | some false => some (.nx e1)
    | none => none
open Classical in
noncomputable def whP (c : Env → Out Tm) (b : Env → Option SRes) (env : Env) : Option SRes :=
  if h : ∃ n, (whN c b n env).isSome = true then whN c b (Classical.choose h) env else none
def scnGo (f : Env → Out Tm) (tg : Tg) : List D → Env → Option (Bool × Env)
  | [], env => some (false, env)
  | x :: xs, env => match setTg tg x env with
    | some e2 => match f e2 with
      | some (.ok t e3) => match asB e3 t with
        | some true => some (true, e3)
        | some false => scnGo f tg xs e3
        | none => none
      | _ => none
    | none => none
def scnEnd (d : D) (i : Nat) (held : List D) : Option (Bool × Env) → Option SRes
  | some (true, _) => if atom d then some (.rt d) else none
  | some (false, e) => some (.nx (putBack (some i) held e))
  | none => none
def forGo (b : D → Env → Option SRes) : List D → Env → Option SRes
  | [], env => some (.nx env)
  | d :: ds, env => match b d env with
    | some (.nx e) => forGo b ds e
    | some (.ct e) => forGo b ds e
    | some (.bk e) => some (.nx e)
    | some (.rt d) => some (.rt d)
    | some (.ex x e) => some (.ex x e)
    | none => none

/-- a list changed by a method: the new items -/
def mtAppend (L : Lim) (ds : List D) : List D → Option (List D)
  | [a] => bif L.len (ds.length + 1) then some (ds ++ [a]) else none
  | _ => none
def mtExtend (L : Lim) (ds : List D) : List D → Option (List D)
  | [.lst .ow es] => if noOwL es then bif L.len (ds.length + es.length) then some (ds ++ es) else none else none
  | [.lst .sh es] => if noOwL es then bif L.len (ds.length + es.length) then some (ds ++ es) else none else none
  | _ => none
def mtClear : List D → Option (List D)
  | [] => some []
  | _ => none
def mtPop (ds : List D) : List D → Option (List D)
  | [] => if ds.isEmpty then none else some ds.dropLast
  | _ => none
def mtInsert (L : Lim) (ds : List D) : List D → Option (List D)
  | [.int k, a] => if 0 ≤ k ∧ k ≤ ds.length then bif L.len (ds.length + 1) then some (ds.take k.toNat ++ [a] ++ ds.drop k.toNat) else none else none
  | _ => none
def mutD (L : Lim) (m : Mt) (ds : List D) (as : List D) : Option (List D) :=
  match m with
  | .append => mtAppend L ds as
  | .extend => mtExtend L ds as
  | .clear => mtClear as
  | .pop => mtPop ds as
  | .insert => mtInsert L ds as

/-- what an except suite notes -/
def kindsOf (k : Str → Option Bool) : List (Bool × Str) → Option (List Bool)
  | [] => some []
  | (n, c) :: cs => (k c).bind fun b => (kindsOf k cs).map ((n != b) :: ·)
def hkGo (L : Lim) (k : Str → Option Bool) : List Hk → Env → Option Env
  | [], env => some env
  | .set j cs :: h, env => (kindsOf k cs).bind fun bs => hkGo L k h (env.set j (.lst .ow (bs.map D.bl)))
  | .add j cs :: h, env => match env[j]? with
    | some (.lst .ow es) => (boolsOf es).bind fun b0 => (kindsOf k cs).bind fun bs => if L.len (b0.length + bs.length) then hkGo L k h (env.set j (.lst .ow ((b0 ++ bs).map D.bl))) else none
    | _ => none
/-- a list of the def's own stands in slot i -/
def owAt (i : Nat) (env : Env) : Bool :=
  match env[i]? with
  | some (.lst .ow _) => true
  | _ => false
/-- x[k] = d, the list in slot i -/
def stIx (i : Nat) (k : Tm) (d : D) (env : Env) : Option Env :=
  match env[i]?, raw env k with
  | some (.lst .ow ds), some (.int n) => match ixN ds.length n with
    | some j => some (env.set i (.lst .ow (ds.set j d)))
    | none => none
  | _, _ => none
mutual
noncomputable def evS : S → Env → Option SRes
  | .asg i e, env => sbnd (evE C e env) fun t e1 => match t with
    | .val d => some (.nx (e1.set i d))
    | .bor _ => none
  | .unp is e, env => sbnd (evE C e env) fun t e1 => match t with
    | .val (.tup ds) => if ds.length = is.length then some (.nx (putE is ds e1)) else none
    | .val (.lst _ ds) => if ds.length = is.length && noOwL ds then some (.nx (putE is ds e1)) else none
    | _ => none
  | .par i j a b, env => sbnd (evE C a env) fun t1 e1 => sbnd (evE C b e1) fun t2 e2 => match t1, t2 with
    | .val x, .val y => some (.nx ((e2.set i x).set j y))
    | _, _ => none
  | .swp i a b c d, env => sbnd (evE C c env) fun t1 e1 => sbnd (evE C d e1) fun t2 e2 => match t1, t2 with
    | .val x, .val y => if !owAt i e2 then none else sbnd (evE C a e2) fun t3 e3 => match stIx i t3 x e3 with
      | some e4 => if !owAt i e4 then none else sbnd (evE C b e4) fun t4 e5 => match stIx i t4 y e5 with
        | some e6 => some (.nx e6)
        | none => none
      | none => none
    | _, _ => none
  | .set1 i k e, env => sbnd (evE C e env) fun t e1 => match t with
    | .val d => if !owAt i e1 then none else sbnd (evE C k e1) fun t2 e2 => match stIx i t2 d e2 with
      | some e3 => some (.nx e3)
      | none => none
    | .bor _ => none
  | .set2 _ _ _ _, _ => none
  | .aug i op e, env => match env[i]? with
    | some (.int x) => sbnd (evE C e env) fun t e1 => match op, raw e1 t with
      | .Add, some (.int y) => some (.nx (e1.set i (.int (x + y))))
      | .Sub, some (.int y) => some (.nx (e1.set i (.int (x - y))))
      | _, _ => none
    | _ => none
  | .mut0 m i es, env => if !owAt i env then none else sbnd (evEs C es env) fun ts e1 => match valsL ts, e1[i]? with
    | some as, some (.lst .ow ds) => match mutD C.L m ds as with
      | some ds' => some (.nx (e1.set i (.lst .ow ds')))
      | none => none
    | _, _ => none
  | .mut1 _ _ _ _, _ => none
  | .ex e, env => sbnd (evE C e env) fun _ e1 => some (.nx e1)
  | .ifs c a b, env => sbnd (evE C c env) fun t e1 => match asB e1 t with
    | some true => evSs a e1
    | some false => evSs b e1
    | none => none
  | .whl c b, env => whP (evE C c) (evSs b) env
  | .frs tg it b, env => sbnd (evIt C it env) fun p e1 => forGo (fun d env => match setTg tg d env with
      | some e2 => evSs b e2
      | none => none) p.2 e1
  | .scn i tg c d, env => sbnd (evIt C (.brw i) env) fun p e1 => scnEnd d i p.1 (scnGo (evE C c) tg p.2 e1)
  | .ret e, env => sbnd (evE C e env) fun t _ => match t with
    | .val d => some (.rt d)
    | .bor _ => none
  | .rse c, env => some (.ex c env)
  | .try1 b c h, env => match evSs b env with
    | some (.ex x e) => if C.exc x c && h.all (fun p => atom p.2) then some (.nx (h.foldl (fun e p => e.set p.1 p.2) e)) else none
    | r => r
  | .try2 b c i h, env => match evSs b env with
    | some (.ex x e) => if C.exc x c && decide (i < e.length) then match hkGo C.L (C.exc.k x) h (e.set i .hole) with
        | some e2 => some (.nx (e2.set i .hole))
        | none => none
      else none
    | r => r
  | .brk, env => some (.bk env)
  | .cnt, env => some (.ct env)
  | .pas, env => some (.nx env)
  | .kil is, env => some (.nx (kill is env))
noncomputable def evSs : Ss → Env → Option SRes
  | .nil, env => some (.nx env)
  | .cons s ss, env => match evS s env with
    | some (.nx e) => evSs ss e
    | some (.rt d) => some (.rt d)
    | some (.bk e) => some (.bk e)
    | some (.ct e) => some (.ct e)
    | some (.ex x e) => some (.ex x e)
    | none => none
end
end

/-- a def: its names (the parameters first), how many parameters, its body -/
structure Fn where
  name : Str
  N : List Str
  np : Nat
  body : Ss
def startE (n : Nat) (ds : List D) : Env := ds ++ List.replicate (n - ds.length) .hole
/-- a program's defs run, n deep -/
noncomputable def run (L : Lim) (exc : Xs) (glb : Str → Option D) (T : List Fn) : Nat → Str → List D → Option CRes
  | 0, _, _ => none
  | n + 1, f, ds => match T.find? fun d => d.name == f with
    | some d => if ds.length = d.np then match evSs ⟨L, run L exc glb T n, fun f k => (T.find? fun d => d.name == f).any fun d => d.np == k, exc, glb⟩ d.body (startE d.N.length ds) with
        | some (.rt x) => some (.ok x)
        | some (.nx _) => some (.ok .non)
        | some (.ex c _) => some (.ex c)
        | _ => none
      else none
    | none => none
end TV
namespace TV
open PySem PySem.Spec PyProof.Rows L2

section
variable {K : PySem.W.Frag} {H H' : Hp}
mutual
theorem Rep.there : ∀ {v d fp sp}, Rep K H v d fp sp → (∀ a ∈ fp, ∃ xs, H a = some (.lst xs)) ∧ ∀ a ∈ sp, ∃ xs, H a = some (.lst xs)
  | _, _, _, _, .hole v => ⟨(fun _ h => nomatch h), (fun _ h => nomatch h)⟩
  | _, _, _, _, .non => ⟨(fun _ h => nomatch h), (fun _ h => nomatch h)⟩
  | _, _, _, _, .bl b => ⟨(fun _ h => nomatch h), (fun _ h => nomatch h)⟩
  | _, _, _, _, .int i => ⟨(fun _ h => nomatch h), (fun _ h => nomatch h)⟩
  | _, _, _, _, .str x => ⟨(fun _ h => nomatch h), (fun _ h => nomatch h)⟩
  | _, _, _, _, .tup h r => Reps.there r
  | _, _, _, _, .sh h r => ⟨(fun _ h => nomatch h), fun a z => (List.mem_cons.mp z).elim (fun e => ⟨_, e ▸ h⟩) ((Reps.there r).2 a)⟩
  | _, _, _, _, .fz h r => Reps.there r
  | _, _, _, _, .dct _ => ⟨(fun _ h => nomatch h), (fun _ h => nomatch h)⟩
  | _, _, _, _, .ow h r => ⟨fun a z => (List.mem_cons.mp z).elim (fun e => ⟨_, e ▸ h⟩) ((Reps.there r).1 a), (Reps.there r).2⟩
theorem Reps.there : ∀ {vs ds fp sp}, Reps K H vs ds fp sp → (∀ a ∈ fp, ∃ xs, H a = some (.lst xs)) ∧ ∀ a ∈ sp, ∃ xs, H a = some (.lst xs)
  | _, _, _, _, .nil => ⟨(fun _ h => nomatch h), (fun _ h => nomatch h)⟩
  | _, _, _, _, .cons h r => ⟨fun a z => (List.mem_append.mp z).elim ((Rep.there h).1 a) ((Reps.there r).1 a), fun a z => (List.mem_append.mp z).elim ((Rep.there h).2 a) ((Reps.there r).2 a)⟩
end
end

/-- the values vs are ds in H: own lists apart from one another, from the shared ones and from all that stood at the entry (H0); the shared ones are those that were handed in (P0) or new -/
def SRi (K : PySem.W.Frag) (H0 : Hp) (P0 : Addr → Prop) (vs : List V) (ds : List D) (H : Hp) : Prop :=
  ∃ fp sp, Reps K H vs ds fp sp ∧ fp.Nodup ∧ (∀ a ∈ fp, a ∉ sp ∧ H0 a = none) ∧ (∀ a ∈ sp, P0 a ∨ H0 a = none) ∧ Same H0 H

section
variable {K : PySem.W.Frag} {H0 H H' : Hp} {P0 : Addr → Prop} {vs vb va' : List V} {ds es ds' : List D}
theorem SRi.sm (h : SRi K H0 P0 vs ds H) : Same H0 H := let ⟨_, _, _, _, _, _, s⟩ := h; s
theorem SRi.len (h : SRi K H0 P0 vs ds H) : vs.length = ds.length := let ⟨_, _, r, _⟩ := h; r.length
theorem SRi.same (h : SRi K H0 P0 vs ds H) (e : Same H H') : SRi K H0 P0 vs ds H' :=
  let ⟨fp, sp, r, n, d, p, s⟩ := h; ⟨fp, sp, Reps.same e r, n, d, p, s.trans e⟩
/-- the first ones are changed into others -/
theorem SRi.step (h : SRi K H0 P0 vs (ds ++ es) H) (sm : Same H H')
    (k : ∀ va vb fa sa, vs = va ++ vb → va.length = ds.length → Reps K H va ds fa sa → fa.Nodup → (∀ a ∈ fa, a ∉ sa) → vb = vb →
      ∃ va' fa' sa', va'' = va' ++ vb ∧ Reps K H' va' ds' fa' sa' ∧ fa'.Nodup ∧ (∀ a ∈ fa', a ∉ sa') ∧ (∀ a ∈ fa', a ∈ fa ∨ H a = none) ∧ ∀ a ∈ sa', a ∈ sa ∨ a ∈ fa ∨ H a = none) :
    SRi K H0 P0 va'' (ds' ++ es) H' := by
  obtain ⟨fp, sp, r, n, d, p, s⟩ := h
  obtain ⟨va, vb, fa, fb, sa, sb, rfl, rfl, rfl, r1, r2⟩ := Reps.split r
  have na := (List.nodup_append.mp n)
  obtain ⟨va', fa', sa', rfl, q1, q2, q3, q4, q5⟩ := k va vb fa sa rfl r1.length r1 na.1 (fun a z1 z2 => (d a (List.mem_append_left _ z1)).1 (List.mem_append_left _ z2)) rfl
  have t1 := r1.there
  have t2 := r2.there
  have old : ∀ a, H a = none → a ∉ fb ∧ a ∉ sb := fun a hn => ⟨fun z => (by obtain ⟨_, e⟩ := t2.1 a z; rw [hn] at e; cases e), fun z => (by obtain ⟨_, e⟩ := t2.2 a z; rw [hn] at e; cases e)⟩
  have offb : ∀ a ∈ fa', a ∉ fb ∧ a ∉ sb := fun a z => by
    rcases q4 a z with z | z
    · exact ⟨fun z2 => (na.2.2 a z a z2) rfl, fun z2 => (d a (List.mem_append_left _ z)).1 (List.mem_append_right _ z2)⟩
    · exact old a z
  have offs : ∀ a ∈ sa', a ∉ fb := fun a z z2 => by
    rcases q5 a z with z | z | z
    · exact (d a (List.mem_append_right _ z2)).1 (List.mem_append_left _ z)
    · exact (na.2.2 a z a z2) rfl
    · exact (old a z).1 z2
  refine ⟨fa' ++ fb, sa' ++ sb, Reps.append q1 (Reps.same sm r2), ?_, ?_, ?_, s.trans sm⟩
  · exact List.nodup_append.mpr ⟨q2, na.2.1, fun a z b z2 e => (offb a z).1 (e ▸ z2)⟩
  · intro a z
    rcases List.mem_append.mp z with z | z
    · refine ⟨fun z2 => ?_, ?_⟩
      · rcases List.mem_append.mp z2 with z2 | z2
        · exact q3 a z z2
        · exact (offb a z).2 z2
      · rcases q4 a z with z | z
        · exact (d a (List.mem_append_left _ z)).2
        · exact s.free z
    · refine ⟨fun z2 => ?_, (d a (List.mem_append_right _ z)).2⟩
      rcases List.mem_append.mp z2 with z2 | z2
      · exact offs a z2 z
      · exact (d a (List.mem_append_right _ z)).1 (List.mem_append_right _ z2)
  · intro a z
    rcases List.mem_append.mp z with z | z
    · rcases q5 a z with z | z | z
      · exact p a (List.mem_append_left _ z)
      · exact .inr (d a (List.mem_append_left _ z)).2
      · exact .inr (s.free z)
    · exact p a (List.mem_append_right _ z)

/-- one of them is dropped into others: what is at j changes, and what is put ahead -/
theorem SRi.at {j : Nat} {d : D} (h : SRi K H0 P0 vs ds H) (e : ds[j]? = some d) :
    ∃ (v : V) (f s fr sr : List Addr), vs[j]? = some v ∧ Rep K H v d f s ∧ f.Nodup ∧ (∀ a ∈ f, a ∉ s ∧ a ∉ fr ∧ a ∉ sr ∧ H0 a = none) ∧ (∀ a ∈ s, a ∉ fr) ∧ (∀ a ∈ fr, ∃ xs, H a = some (.lst xs)) ∧ (∀ a ∈ sr, ∃ xs, H a = some (.lst xs)) ∧
      ∀ (H' : Hp) (us : List V) (cs : List D) (fu su : List Addr) (v' : V) (d' : D) (f' s' : List Addr),
        (∀ {v : V} {d : D} {f s : List Addr}, (∀ a ∈ f, a ∈ fr) → (∀ a ∈ s, a ∈ sr) → Rep K H v d f s → Rep K H' v d f s) → Same H0 H' → Reps K H' us cs fu su → Rep K H' v' d' f' s' → (fu ++ f').Nodup → (∀ a ∈ fu ++ f', a ∉ su ++ s' ∧ (a ∈ f ∨ H a = none)) →
        (∀ a ∈ su ++ s', a ∈ s ∨ a ∈ f ∨ H a = none ∨ P0 a ∧ a ∉ fr) → SRi K H0 P0 (us ++ vs.set j v') (cs ++ ds.set j d') H' := by
  obtain ⟨fp, sp, r, n, dj, p, sm⟩ := h
  have t := r.there
  obtain ⟨v, f, s, fr, sr, e1, q, p1, p2, k⟩ := Reps.set r e
  have n1 := (p1.nodup_iff.mp n)
  have n2 := List.nodup_append.mp n1
  have inF : ∀ a, a ∈ f ∨ a ∈ fr → a ∈ fp := fun a z => p1.mem_iff.mpr (List.mem_append.mpr z)
  have inS : ∀ a, a ∈ s ∨ a ∈ sr → a ∈ sp := fun a z => p2.mem_iff.mpr (List.mem_append.mpr z)
  refine ⟨v, f, s, fr, sr, e1, q, n2.1, fun a z => ⟨fun z2 => (dj a (inF a (.inl z))).1 (inS a (.inl z2)), fun z2 => n2.2.2 a z a z2 rfl, fun z2 => (dj a (inF a (.inl z))).1 (inS a (.inr z2)), (dj a (inF a (.inl z))).2⟩,
    fun a z z2 => (dj a (inF a (.inr z2))).1 (inS a (.inl z)), fun a z => t.1 a (inF a (.inr z)), fun a z => t.2 a (inS a (.inr z)), ?_⟩
  intro H' us cs fu su v' d' f' s' hk sm' hu hv hn hd hs
  obtain ⟨fp', sp', r', q1, q2⟩ := k v' d' f' s' H' hk hv
  have memF : ∀ a, a ∈ fp' → a ∈ f' ∨ a ∈ fr := fun a z => List.mem_append.mp (q1.mem_iff.mp z)
  have memS : ∀ a, a ∈ sp' → a ∈ s' ∨ a ∈ sr := fun a z => List.mem_append.mp (q2.mem_iff.mp z)
  have nN := List.nodup_append.mp hn
  have off : ∀ a, (a ∈ f ∨ H a = none) → a ∉ fr ∧ a ∉ sr := fun a z => by
    rcases z with z | z
    · exact ⟨fun z2 => n2.2.2 a z a z2 rfl, fun z2 => (dj a (inF a (.inl z))).1 (inS a (.inr z2))⟩
    · refine ⟨fun z2 => ?_, fun z2 => ?_⟩
      · obtain ⟨_, e⟩ := t.1 a (inF a (.inr z2)); rw [z] at e; cases e
      · obtain ⟨_, e⟩ := t.2 a (inS a (.inr z2)); rw [z] at e; cases e
  have offS : ∀ a ∈ su ++ s', a ∉ fr := fun a z z2 => by
    rcases hs a z with z | z | z | z
    · exact (dj a (inF a (.inr z2))).1 (inS a (.inl z))
    · exact n2.2.2 a z a z2 rfl
    · obtain ⟨_, e⟩ := t.1 a (inF a (.inr z2)); rw [z] at e; cases e
    · exact z.2 z2
  refine ⟨fu ++ fp', su ++ sp', Reps.append hu r', ?_, ?_, ?_, sm'⟩
  · refine List.nodup_append.mpr ⟨nN.1, q1.nodup_iff.mpr (List.nodup_append.mpr ⟨nN.2.1, n2.2.1, fun a z b z2 e => (off a (hd a (List.mem_append_right _ z)).2).1 (e ▸ z2)⟩), fun a z b z2 e => ?_⟩
    subst e
    rcases memF a z2 with z2 | z2
    · exact nN.2.2 a z a z2 rfl
    · exact (off a (hd a (List.mem_append_left _ z)).2).1 z2
  · intro a z
    have z' : a ∈ fu ++ f' ∨ a ∈ fr := by
      rcases List.mem_append.mp z with z | z
      · exact .inl (List.mem_append_left _ z)
      · exact (memF a z).imp (List.mem_append_right _) id
    rcases z' with z' | z'
    · refine ⟨fun z2 => ?_, ?_⟩
      · rcases List.mem_append.mp z2 with z2 | z2
        · exact (hd a z').1 (List.mem_append_left _ z2)
        · rcases memS a z2 with z2 | z2
          · exact (hd a z').1 (List.mem_append_right _ z2)
          · exact (off a (hd a z').2).2 z2
      · rcases (hd a z').2 with z2 | z2
        · exact (dj a (inF a (.inl z2))).2
        · exact sm.free z2
    · refine ⟨fun z2 => ?_, (dj a (inF a (.inr z'))).2⟩
      rcases List.mem_append.mp z2 with z2 | z2
      · exact offS a (List.mem_append_left _ z2) z'
      · rcases memS a z2 with z2 | z2
        · exact offS a (List.mem_append_right _ z2) z'
        · exact (dj a (inF a (.inr z'))).1 (inS a (.inr z2))
  · intro a z
    have z' : a ∈ su ++ s' ∨ a ∈ sr := by
      rcases List.mem_append.mp z with z | z
      · exact .inl (List.mem_append_left _ z)
      · exact (memS a z).imp (List.mem_append_right _) id
    rcases z' with z' | z'
    · rcases hs a z' with z2 | z2 | z2 | z2
      · exact p a (inS a (.inl z2))
      · exact .inr (dj a (inF a (.inl z2))).2
      · exact .inr (sm.free z2)
      · exact .inl z2.1
    · exact p a (inS a (.inr z'))
end

def D.isHole : D → Bool
  | .hole => true
  | _ => false
theorem share_hole : ∀ {d : D}, d.isHole = false → d.share.isHole = false
  | .hole, h => by simp [D.isHole] at h
  | .non, _ => rfl
  | .bl _, _ => rfl
  | .int _, _ => rfl
  | .str _, _ => rfl
  | .tup _, _ => rfl
  | .lst .ow _, _ => rfl
  | .lst .sh _, _ => rfl
  | .lst .fz _, _ => rfl
  | .dct, _ => rfl
/-- a slot's value, None where nothing is known -/
def sv : D → Option V → V
  | .hole, _ => .non
  | _, o => o.getD .non
theorem sv_hole {o : Option V} : sv .hole o = .non := rfl
theorem sv_of {d : D} {v : V} (h : d.isHole = false) : sv d (some v) = v := by
  cases d <;> first | rfl | (simp [D.isHole] at h)
def svs (env : Env) (σ : L2.St) : List V := List.zipWith sv env σ
/-- a def's state: the slots are env, the values T wait -/
structure SR (K : PySem.W.Frag) (H0 : Hp) (P0 : Addr → Prop) (env : Env) (σ : L2.St) (T : List (D × V)) (H : Hp) : Prop where
  len : σ.length = env.length
  has : ∀ (i : Nat) (d : D), env[i]? = some d → d.isHole = false → ∃ v, σ[i]? = some (some v)
  sr : SRi K H0 P0 (T.map (·.2) ++ svs env σ) (T.map (·.1) ++ env) H

section
variable {K : PySem.W.Frag} {H0 H H' : Hp} {P0 : Addr → Prop} {env : Env} {σ : L2.St} {W T : List (D × V)} {d : D} {v : V}
theorem svs_get {i : Nat} (h : σ[i]? = some (some v)) (e : env[i]? = some d) (n : d.isHole = false) : (svs env σ)[i]? = some v := by
  unfold svs; rw [List.getElem?_zipWith, h, e]
  show some (sv d (some v)) = some v
  rw [sv_of n]
theorem zipWith_set {α β γ : Type} (f : α → β → γ) : ∀ (as : List α) (bs : List β) (i : Nat) (a : α) (b : β), List.zipWith f (as.set i a) (bs.set i b) = (List.zipWith f as bs).set i (f a b)
  | [], _, _, _, _ => by simp
  | _ :: _, [], i, _, _ => by cases i <;> simp
  | a0 :: as, b0 :: bs, 0, a, b => by simp
  | a0 :: as, b0 :: bs, i + 1, a, b => by simp [zipWith_set f as bs i a b]
theorem svs_set {i : Nat} : svs (env.set i d) (σ.set i (some v)) = (svs env σ).set i (sv d (some v)) := zipWith_set sv env σ i d (some v)
theorem set_self {α : Type} : ∀ (l : List α) (i : Nat) (a : α), l[i]? = some a → l.set i a = l
  | [], i, a, h => by simp at h
  | x :: l, 0, a, h => by have : x = a := by simpa using h
                          simp [this]
  | x :: l, i + 1, a, h => by simp [set_self l i a (by simpa using h)]
theorem svs_hole {i : Nat} (hl : i < σ.length) : svs (env.set i .hole) σ = (svs env σ).set i .non := by
  have e : σ.set i σ[i] = σ := set_self _ _ _ (by simp [hl])
  unfold svs
  have := zipWith_set sv env σ i .hole σ[i]
  rw [e] at this
  exact this
theorem svs_same {i : Nat} (h : σ[i]? = some (some v)) (n : d.isHole = false) : svs (env.set i d) σ = (svs env σ).set i v := by
  have e : σ.set i (some v) = σ := set_self _ _ _ h
  have := svs_set (env := env) (σ := σ) (i := i) (d := d) (v := v)
  rw [e, sv_of n] at this
  exact this
theorem SR.sm (h : SR K H0 P0 env σ T H) : Same H0 H := h.sr.sm
theorem SR.same (h : SR K H0 P0 env σ T H) (e : Same H H') : SR K H0 P0 env σ T H' := ⟨h.len, h.has, h.sr.same e⟩
/-- what waits first is changed -/
theorem SR.step (h : SR K H0 P0 env σ (W ++ T) H) (sm : Same H H') {W' : List (D × V)}
    (k : ∀ fa sa, Reps K H (W.map (·.2)) (W.map (·.1)) fa sa → fa.Nodup → (∀ a ∈ fa, a ∉ sa) →
      ∃ fa' sa', Reps K H' (W'.map (·.2)) (W'.map (·.1)) fa' sa' ∧ fa'.Nodup ∧ (∀ a ∈ fa', a ∉ sa') ∧ (∀ a ∈ fa', a ∈ fa ∨ H a = none) ∧ ∀ a ∈ sa', a ∈ sa ∨ a ∈ fa ∨ H a = none) :
    SR K H0 P0 env σ (W' ++ T) H' := by
  refine ⟨h.len, h.has, ?_⟩
  have h1 := h.sr
  rw [List.map_append, List.map_append, List.append_assoc, List.append_assoc] at h1
  rw [List.map_append, List.map_append, List.append_assoc, List.append_assoc]
  refine h1.step sm fun va vb fa sa e l r n dj _ => ?_
  have hl : (W.map (·.2)).length = va.length := by rw [l, List.length_map, List.length_map]
  obtain ⟨e1, e2⟩ := List.append_inj e hl
  subst e1
  obtain ⟨fa', sa', q⟩ := k fa sa r n dj
  exact ⟨_, fa', sa', by rw [e2], q⟩
theorem SR.pop (h : SR K H0 P0 env σ (W ++ T) H) : SR K H0 P0 env σ T H :=
  SR.step (W' := []) h (Same.refl H) fun _ _ _ _ _ => ⟨[], [], .nil, .nil, (fun _ z => nomatch z), (fun _ z => nomatch z), (fun _ z => nomatch z)⟩
theorem SR.pop1 {p : D × V} (h : SR K H0 P0 env σ (p :: T) H) : SR K H0 P0 env σ T H := SR.pop (W := [p]) h
theorem SR.reps (h : SR K H0 P0 env σ (W ++ T) H) : ∃ fa sa, Reps K H (W.map (·.2)) (W.map (·.1)) fa sa ∧ fa.Nodup ∧ ∀ a ∈ fa, a ∉ sa := by
  obtain ⟨fp, sp, r, n, d, _⟩ := h.sr
  rw [List.map_append, List.map_append, List.append_assoc, List.append_assoc] at r
  obtain ⟨va, vb, fa, fb, sa, sb, e, rfl, rfl, r1, r2⟩ := Reps.split r
  have hl : (W.map (·.2)).length = va.length := by rw [r1.length, List.length_map, List.length_map]
  obtain ⟨e1, e2⟩ := List.append_inj e hl
  subst e1
  exact ⟨fa, sa, r1, (List.nodup_append.mp n).1, fun a z1 z2 => (d a (List.mem_append_left _ z1)).1 (List.mem_append_left _ z2)⟩
theorem SR.rep (h : SR K H0 P0 env σ ((d, v) :: T) H) : ∃ f s, Rep K H v d f s ∧ f.Nodup ∧ ∀ a ∈ f, a ∉ s := by
  obtain ⟨fa, sa, r, n, dj⟩ := SR.reps (W := [(d, v)]) h
  cases r with
  | cons r1 r2 =>
    cases r2
    rw [List.append_nil] at n dj
    exact ⟨_, _, r1, n, fun a z => by have := dj a z; rwa [List.append_nil] at this⟩
/-- plain values are put ahead -/
theorem SR.put (h : SR K H0 P0 env σ T H) (r : Rep K H v d [] []) : SR K H0 P0 env σ ((d, v) :: T) H :=
  SR.step (W := []) (W' := [(d, v)]) h (Same.refl H) fun _ _ _ _ _ => ⟨[], [], .cons r .nil, .nil, (fun _ z => nomatch z), (fun _ z => nomatch z), (fun _ z => nomatch z)⟩
theorem rep_atom (h : atom d = true) (r : Rep K H v d f s) : f = [] ∧ s = [] := by
  cases r <;> first | exact ⟨rfl, rfl⟩ | (simp [atom] at h)

/-- more that is shared is put ahead, out of what is there -/
theorem SRi.also {vs : List V} {ds cs : List D} {j : Nat} {P : List V → Prop} (h : SRi K H0 P0 vs ds H) (e : ds[j]? = some d)
    (k : ∀ v f s, vs[j]? = some v → Rep K H v d f s → ∃ us su, Reps K H us cs [] su ∧ (∀ a ∈ su, a ∈ s) ∧ P us) : ∃ us, SRi K H0 P0 (us ++ vs) (cs ++ ds) H ∧ P us := by
  obtain ⟨fp, sp, r, n, dj, p, sm⟩ := h
  obtain ⟨v, f, s, fr, sr, e1, q, p1, p2⟩ := Reps.get r e
  obtain ⟨us, su, ru, hs, hp⟩ := k v f s e1 q
  have hin : ∀ a ∈ su, a ∈ sp := fun a z => p2.mem_iff.mpr (List.mem_append_left _ (hs a z))
  refine ⟨us, ⟨fp, su ++ sp, Reps.append (fp := []) ru r, n, fun a z => ⟨fun z2 => ?_, (dj a z).2⟩, fun a z => ?_, sm⟩, hp⟩
  · rcases List.mem_append.mp z2 with z2 | z2
    · exact (dj a z).1 (hin a z2)
    · exact (dj a z).1 z2
  · rcases List.mem_append.mp z with z | z
    · exact p a (hin a z)
    · exact p a z

theorem slot_get {j : Nat} (i : Nat) : (T.map (·.1) ++ env)[T.length + i]? = env[i]? := by
  rw [List.getElem?_append_right (by simp), List.length_map, Nat.add_sub_cancel_left]
theorem slot_getV (i : Nat) : (T.map (·.2) ++ svs env σ)[T.length + i]? = (svs env σ)[i]? := by
  rw [List.getElem?_append_right (by simp), List.length_map, Nat.add_sub_cancel_left]
theorem slot_set {α : Type} {xs ys : List α} {n i : Nat} {a : α} (h : xs.length = n) : (xs ++ ys).set (n + i) a = xs ++ ys.set i a := by
  rw [List.set_append_right _ _ (by omega), h, Nat.add_sub_cancel_left]

/-- what stands in a slot -/
theorem SR.slot {i : Nat} (h : SR K H0 P0 env σ T H) (e : env[i]? = some d) (n : d.isHole = false) : ∃ v f s, σ[i]? = some (some v) ∧ Rep K H v d f s := by
  obtain ⟨v, hv⟩ := h.has i d e n
  obtain ⟨fp, sp, r, _⟩ := h.sr
  obtain ⟨w, f, s, _, _, e1, q, _⟩ := Reps.get (i := T.length + i) r (by rw [slot_get (j := 0)]; exact e)
  rw [slot_getV, svs_get hv e n] at e1
  cases e1
  exact ⟨v, f, s, hv, q⟩
/-- something shared out of a slot's value is put ahead -/
theorem SR.alsoSlot {i : Nat} {U : List D} {P : List V → Prop} (h : SR K H0 P0 env σ T H) (e : env[i]? = some d) (n : d.isHole = false)
    (k : ∀ v f s, σ[i]? = some (some v) → Rep K H v d f s → ∃ us su, Reps K H us U [] su ∧ (∀ a ∈ su, a ∈ s) ∧ P us) : ∃ us, SR K H0 P0 env σ (U.zip us ++ T) H ∧ us.length = U.length ∧ P us := by
  obtain ⟨v, hv⟩ := h.has i d e n
  obtain ⟨us, h1, hp⟩ := SRi.also (cs := U) (P := P) (j := T.length + i) h.sr (by rw [slot_get (j := 0)]; exact e) (fun w f s e1 q => by
    rw [slot_getV, svs_get hv e n] at e1
    cases e1
    exact k v f s hv q)
  have hl : us.length = U.length := by
    have := h1.len
    have h0 := h.sr.len
    simp only [List.length_append] at this h0
    omega
  refine ⟨us, ⟨h.len, h.has, ?_⟩, hl, hp⟩
  rw [List.map_append, List.map_append, List.append_assoc, List.append_assoc]
  have e1 : (U.zip us).map (·.1) = U := List.map_fst_zip (by omega)
  have e2 : (U.zip us).map (·.2) = us := List.map_snd_zip (by omega)
  rw [e1, e2]
  exact h1
/-- .. out of what waits first -/
theorem SR.alsoTop {U : List D} {P : List V → Prop} (h : SR K H0 P0 env σ ((d, v) :: T) H)
    (k : ∀ f s, Rep K H v d f s → ∃ us su, Reps K H us U [] su ∧ (∀ a ∈ su, a ∈ s) ∧ P us) : ∃ us, SR K H0 P0 env σ (U.zip us ++ ((d, v) :: T)) H ∧ us.length = U.length ∧ P us := by
  obtain ⟨us, h1, hp⟩ := SRi.also (cs := U) (P := P) (j := 0) h.sr rfl (fun w f s e1 q => by
    have : v = w := Option.some.inj e1
    subst this
    exact k f s q)
  have hl : us.length = U.length := by
    have := h1.len
    have h0 := h.sr.len
    simp only [List.length_append] at this h0
    omega
  refine ⟨us, ⟨h.len, h.has, ?_⟩, hl, hp⟩
  rw [List.map_append, List.map_append, List.append_assoc, List.append_assoc]
  have e1 : (U.zip us).map (·.1) = U := List.map_fst_zip (by omega)
  have e2 : (U.zip us).map (·.2) = us := List.map_snd_zip (by omega)
  rw [e1, e2]
  exact h1

theorem some_set {env : Env} {σ : L2.St} {i : Nat} {d' : D} (hs : ∀ (i : Nat) (d : D), env[i]? = some d → d.isHole = false → ∃ v, σ[i]? = some (some v)) (hi : d'.isHole = false → ∃ v, σ[i]? = some (some v)) :
    ∀ (j : Nat) (d : D), (env.set i d')[j]? = some d → d.isHole = false → ∃ v, σ[j]? = some (some v) := fun j d e n => by
  by_cases hj : j = i
  · subst hj
    by_cases hl : j < env.length
    · rw [List.getElem?_set_self hl] at e
      cases e
      exact hi n
    · rw [List.getElem?_eq_none (by rw [List.length_set]; omega)] at e; cases e
  · rw [List.getElem?_set_ne (Ne.symm hj)] at e
    exact hs j d e n

/-- a slot's value goes ahead, nothing stays -/
theorem SR.mv {i : Nat} (h : SR K H0 P0 env σ T H) (e : env[i]? = some d) (n : d.isHole = false) : ∃ v, σ[i]? = some (some v) ∧ SR K H0 P0 (env.set i .hole) σ ((d, v) :: T) H := by
  obtain ⟨v, hv⟩ := h.has i d e n
  have hl : i < σ.length := by
    rw [h.len]; exact (List.getElem?_eq_some_iff.mp e).1
  obtain ⟨w, f, s, fr, sr, e1, q, nf, df, ds, _, _, k⟩ := SRi.at (j := T.length + i) h.sr (by rw [slot_get (j := 0)]; exact e)
  rw [slot_getV, svs_get hv e n] at e1
  cases e1
  refine ⟨v, hv, by rw [List.length_set]; exact h.len, some_set h.has (fun z => nomatch z), ?_⟩
  have h2 := k H [v] [d] f s .non .hole [] [] (fun _ _ r => r) h.sm (by simpa using (Reps.cons q .nil)) (.hole _) (by simpa using nf) (fun a z => by
      have z' : a ∈ f := by simpa using z
      exact ⟨by simpa using (df a z').1, .inl z'⟩) (fun a z => .inl (by simpa using z))
  rw [slot_set (by simp), slot_set (by simp)] at h2
  rw [List.map_cons, List.map_cons, svs_hole hl]
  exact h2
/-- a slot's value is shared from now on -/
theorem SR.fr {i : Nat} (h : SR K H0 P0 env σ T H) (e : env[i]? = some d) (n : d.isHole = false) : ∃ v, σ[i]? = some (some v) ∧ SR K H0 P0 (env.set i d.share) σ ((d.share, v) :: T) H := by
  obtain ⟨v, hv⟩ := h.has i d e n
  have ns : d.share.isHole = false := share_hole n
  obtain ⟨w, f, s, fr, sr, e1, q, nf, df, ds, _, _, k⟩ := SRi.at (j := T.length + i) h.sr (by rw [slot_get (j := 0)]; exact e)
  rw [slot_getV, svs_get hv e n] at e1
  cases e1
  obtain ⟨s', q', hs⟩ := Rep.share q
  refine ⟨v, hv, by rw [List.length_set]; exact h.len, some_set h.has (fun _ => ⟨v, hv⟩), ?_⟩
  have h2 := k H [v] [d.share] [] s' v d.share [] s' (fun _ _ r => r) h.sm (by simpa using (Reps.cons q' .nil)) q' (by simp) (fun a z => by simp at z) (fun a z => by
      have z' : a ∈ s' := by simpa using z
      exact (hs a z').elim (fun z => .inr (.inl z)) .inl)
  rw [slot_set (by simp), slot_set (by simp)] at h2
  rw [List.map_cons, List.map_cons, svs_same hv ns]
  exact h2
/-- what waits first goes to a slot -/
theorem SR.asg {i : Nat} (h : SR K H0 P0 env σ ((d, v) :: T) H) : SR K H0 P0 (env.set i d) (σ.set i (some v)) T H := by
  by_cases hi : i < env.length
  case neg =>
    rw [List.set_eq_of_length_le (by omega), List.set_eq_of_length_le (by rw [h.len]; omega)]
    exact h.pop1
  have hl : i < σ.length := by rw [h.len]; exact hi
  obtain ⟨d0, e0⟩ : ∃ d0, env[i]? = some d0 := ⟨env[i], by simp [hi]⟩
  obtain ⟨fp, sp, r, nd, dj, p, sm⟩ := h.sr
  cases r with
  | cons r1 r2 =>
    rename_i f s fp sp
    replace r2 : Reps K H (T.map (·.2) ++ svs env σ) (T.map (·.1) ++ env) fp sp := r2
    replace r1 : Rep K H v d f s := r1
    have e1 : (T.map (·.1) ++ env)[T.length + i]? = some d0 := by rw [slot_get (j := 0)]; exact e0
    obtain ⟨w, f0, s0, fr, sr, e2, q, p1, p2, k⟩ := Reps.set r2 e1
    have r1' : Rep K H (sv d (some v)) d f s := by
      by_cases hh : d.isHole = false
      · rw [sv_of hh]; exact r1
      · cases d <;> first | (simp [D.isHole] at hh; done) | skip
        cases r1
        exact .hole _
    obtain ⟨fp', sp', r', q1, q2⟩ := k (sv d (some v)) d f s H (fun _ _ r => r) r1'
    rw [slot_set (by simp), slot_set (by simp), ← svs_set] at r'
    have inF : ∀ a, a ∈ fp' → a ∈ f ++ fp := fun a z => by
      rcases List.mem_append.mp (q1.mem_iff.mp z) with z | z
      · exact List.mem_append_left _ z
      · exact List.mem_append_right _ (p1.mem_iff.mpr (List.mem_append_right _ z))
    have inS : ∀ a, a ∈ sp' → a ∈ s ++ sp := fun a z => by
      rcases List.mem_append.mp (q2.mem_iff.mp z) with z | z
      · exact List.mem_append_left _ z
      · exact List.mem_append_right _ (p2.mem_iff.mpr (List.mem_append_right _ z))
    refine ⟨by rw [List.length_set, List.length_set]; exact h.len, ?_, fp', sp', r', ?_, fun a z => ⟨fun z2 => (dj a (inF a z)).1 (inS a z2), (dj a (inF a z)).2⟩, fun a z => p a (inS a z), sm⟩
    · refine fun j d1 e n => ?_
      by_cases hj : j = i
      · subst hj
        exact ⟨v, by rw [List.getElem?_set_self hl]⟩
      · rw [List.getElem?_set_ne (Ne.symm hj)] at e
        rw [List.getElem?_set_ne (Ne.symm hj)]
        exact h.has j d1 e n
    · refine q1.nodup_iff.mpr ?_
      have n1 := List.nodup_append.mp nd
      have n2 := List.nodup_append.mp (p1.nodup_iff.mp n1.2.1)
      exact List.nodup_append.mpr ⟨n1.1, n2.2.1, fun a z b z2 e => n1.2.2 a z b (p1.mem_iff.mpr (List.mem_append_right _ z2)) e⟩
/-- a slot is forgotten -/
theorem SR.kill1 (i : Nat) (h : SR K H0 P0 env σ T H) : SR K H0 P0 (env.set i .hole) σ T H := by
  by_cases hi : i < env.length
  · obtain ⟨d0, e0⟩ : ∃ d0, env[i]? = some d0 := ⟨env[i], by simp [hi]⟩
    have hl : i < σ.length := by rw [h.len]; exact hi
    obtain ⟨w, f, s, fr, sr, e1, q, nf, df, ds, _, _, k⟩ := SRi.at (j := T.length + i) h.sr (by rw [slot_get (j := 0)]; exact e0)
    have h2 := k H [] [] [] [] .non .hole [] [] (fun _ _ r => r) h.sm .nil (.hole _) (by simp) (fun a z => by simp at z) (fun a z => by simp at z)
    rw [slot_set (by simp), slot_set (by simp), ← svs_hole hl] at h2
    exact ⟨by rw [List.length_set]; exact h.len, some_set h.has (fun z => nomatch z), h2⟩
  · rw [List.set_eq_of_length_le (by omega)]
    exact h
theorem SR.kill : ∀ (is : List Nat) {env : Env}, SR K H0 P0 env σ T H → SR K H0 P0 (kill is env) σ T H
  | [], _, h => h
  | i :: is, _, h => SR.kill is (h.kill1 i)
end
end TV
namespace TV
open PySem PySem.Spec PyProof.Rows L2

def Tm.d : Tm → D
  | .val d => d
  | .bor _ => .hole
def Tm.at (σ : L2.St) : Tm → V → Prop
  | .val _, _ => True
  | .bor i, v => σ[i]? = some (some v)
def tmz : List Tm → List V → List (D × V)
  | t :: ts, v :: vs => (t.d, v) :: tmz ts vs
  | _, _ => []
def ats (σ : L2.St) : List Tm → List V → Prop
  | t :: ts, v :: vs => t.at σ v ∧ ats σ ts vs
  | [], [] => True
  | _, _ => False

abbrev Wish := Str → L2.St → Hp → Prop
section
variable (C : Ctx) (W : Wish) (K : PySem.W.Frag) (H0 : Hp) (P0 : Addr → Prop)
def tE (e : E) : TE := fun σ H Q => ∃ env T r, SR K H0 P0 env σ T H ∧ evE C e env = some r ∧
  (∀ t env', r = .ok t env' → ∀ v H', SR K H0 P0 env' σ ((t.d, v) :: T) H' → t.at σ v → Q v H') ∧ (∀ c env', r = .ex c env' → ∀ H', SR K H0 P0 env' σ T H' → W c σ H')
def tT (e : E) : TT := fun σ H Q => ∃ env T r, SR K H0 P0 env σ T H ∧ evE C e env = some r ∧
  (∀ t env', r = .ok t env' → ∃ b, raw env' t = some (.bl b) ∧ ∀ H', SR K H0 P0 env' σ T H' → Q b H') ∧ (∀ c env', r = .ex c env' → ∀ H', SR K H0 P0 env' σ T H' → W c σ H')
def tEs (es : Es) : TA := fun σ H Q => ∃ env T r, SR K H0 P0 env σ T H ∧ evEs C es env = some r ∧
  (∀ ts env', r = .ok ts env' → ∀ vs H', SR K H0 P0 env' σ (tmz ts vs ++ T) H' → ats σ ts vs → Q vs H') ∧ (∀ c env', r = .ex c env' → ∀ H', SR K H0 P0 env' σ T H' → W c σ H')
def tO (o : Eo) : TO := fun σ H Q => ∃ env T r, SR K H0 P0 env σ T H ∧ evEo C o env = some r ∧
  (∀ i env', r = .ok i env' → ∀ H', SR K H0 P0 env' σ T H' → Q i H') ∧ (∀ c env', r = .ex c env' → ∀ H', SR K H0 P0 env' σ T H' → W c σ H')
end

/-- what a def promises: it runs as its core does -/
def spD (K : PySem.W.Frag) (mg : Str → Option Value) (n : Nat) (f : List D → Option CRes) : Sp := fun vs H Q E => ∃ ds sp, Reps K H vs ds [] sp ∧ ds.length = n ∧
  ((∃ d, f ds = some (.ok d) ∧ ∀ v H', SRi K H (· ∈ sp) [v] [d] H' → Q v H') ∨ (∃ c, f ds = some (.ex c) ∧ ∀ H' a, Same H H' → mg c = some (.ref a) → E (.ref a) none H'))
theorem spD_len {K : PySem.W.Frag} {mg : Str → Option Value} {n : Nat} {f : List D → Option CRes} {vs : List V} {H : Hp} {Q : VK} {E : XK} (h : spD K mg n f vs H Q E) : vs.length = n := by
  obtain ⟨ds, sp, r, e, _⟩ := h
  rw [r.length, e]

def builtins : List Str := ["len", "abs", "min", "max", "sum", "list", "int", "str", "isinstance", "range", "zip", "reversed", "enumerate", "bool", "tuple", "sorted", "all"]
/-- the wish by the exception's class -/
def WC (mg : Str → Option Value) (W : Wish) : WX := fun cls d σ H => d = none ∧ ∃ c a, cls = .ref a ∧ mg c = some (.ref a) ∧ W c σ H
/-- what the classes say of isinstance(an exception of the class x, c) -/
def KitOk (K : PySem.W.Frag) (mg : Str → Option Value) (x c : Str) (b : Bool) : Prop := ∃ a, mg x = some (.ref a) ∧ L2.ExcC K a ∧
  ((∃ e, mg c = some (.ref e) ∧ (c == ("__debug__" : Str)) = false ∧ PySem.W.kitOne K (.ref a) (.ref e) = some b) ∨ (c = "ValueError" ∧ mg c = none ∧ PySem.W.kitOne K (.ref a) (.type "ValueError") = some b))
structure XOk (C : Ctx) (X : Cx) (W : Wish) : Prop where
  kit : ∀ x c b, C.exc.k x c = some b → KitOk X.K X.mg x c b
  calm : X.calm = true
  nd : X.N.Nodup
  room : Room 1 X.A
  bi : ∀ x ∈ builtins, X.mg x = none
  glb : ∀ x d, C.glb x = some d → ∃ v u, X.mg x = some u ∧ RelV v u ∧ ∀ H, Rep X.K H v d [] []
  call : ∀ f n, C.isDef f n = true → ∃ k fa fd ps, Room k X.A ∧ X.mg f = some (.ref fa) ∧ PySem.W.keepIn X.K (.ref fa) = true ∧ Binds X.K fd ps [] ∧ FnOk X.prog X.w X.K X.mg X.base (L2.CX X.prog X.w) k fa fd ps (spD X.K X.mg n (C.call f))
  tk : Takes X (WC X.mg W)
  len : ∀ n, C.L.len n = true → n < sizeLine
  mul : ∀ i j, C.L.mul i j = true → IntMulOk i j
  eq : ∀ d, C.L.eq d = true → SeqAt.shaped d.py = true
  rng : ∀ i, C.L.rng i = true → -(2 ^ 62) ≤ i ∧ i < 2 ^ 62
  seer : X.base.NoSeer
  tree : X.prog.given.tree = none
  deep : X.A.depth + Builtin.pylongFrames < recursionLimit
  rse : ∀ x, C.exc x x = true → ∃ a, X.mg x = some (.ref a) ∧ PySem.W.keepIn X.K (.ref a) = true ∧ PySem.W.excIn X.K a [.type "ValueError", .type "Exception", .type "BaseException", .type "object"] "ValueError.__new__" = true ∧ PySem.W.subIn X.K (.ref a) (.type "BaseException") = some true ∧ PySem.W.typeIn X.K (.ref a) = some (.type "type")
  exm : ∀ x c, C.exc x c = true → ∃ a b, X.mg x = some (.ref a) ∧ X.mg c = some (.ref b) ∧ PySem.W.exmOne X.K (.ref a) (.ref b) = some true
  frm : ∃ env l, X.stack = env :: l ∧ env.scope.isGenerator = false ∧ env.scope.isCoroutine = false ∧ env.builtins = builtinsNs ∧ env.globals = mainGlobals
  dig : ∀ i, C.L.dig i = true → i.natAbs.log2 < 1920

/-- .. and statements -/
structure SOk (C : Ctx) (X : Cx) (W : Wish) : Prop extends XOk C X W where
  stk : X.stack = X.env :: X.outer
  fra : X.env.frame = some X.env.locals
  po : PassesOwn (model X.prog X.w) X.A X.env X.xe

section
variable {C : Ctx} {W : Wish} {X : Cx} {H0 : Hp} {P0 : Addr → Prop}
theorem _root_.L2.PE.imp {e : Expr} {t t' : TE} (h : PE X e t) (k : ∀ σ H Q, t' σ H Q → t σ H Q) : PE X e t' := ⟨fun pins s σ H Q I hq => h.run pins s σ H Q I (k σ H Q hq)⟩
theorem _root_.L2.PT.imp {e : Expr} {t t' : TT} (h : PT X e t) (k : ∀ σ H Q, t' σ H Q → t σ H Q) : PT X e t' := ⟨fun pins s σ H Q I hq => h.run pins s σ H Q I (k σ H Q hq)⟩
theorem _root_.L2.PA.imp {e : List Expr} {t t' : TA} (h : PA X e t) (k : ∀ σ H Q, t' σ H Q → t σ H Q) : PA X e t' := ⟨fun pos pins s σ H Q I hq => h.run pos pins s σ H Q I (k σ H Q hq)⟩
theorem _root_.L2.PO.imp {e : Option Expr} {t t' : TO} (h : PO X e t) (k : ∀ σ H Q, t' σ H Q → t σ H Q) : PO X e t' := ⟨fun pins s σ H Q I hq => h.run pins s σ H Q I (k σ H Q hq)⟩
theorem _root_.L2.PS.imp {e : Stmt} {t t' : TS} (h : PS X e t) (k : ∀ D σ H, t' D σ H → t D σ H) : PS X e t' := ⟨fun pins s σ H D I hq => h.run pins s σ H D I (k D σ H hq)⟩
theorem _root_.L2.PSs.imp {e : List Stmt} {t t' : TS} (h : PSs X e t) (k : ∀ D σ H, t' D σ H → t D σ H) : PSs X e t' := ⟨fun pins s σ H D I hq => h.run pins s σ H D I (k D σ H hq)⟩

theorem sE_mv {i : Nat} {ast : Expr} (h : PE X ast (tVar i)) : PE X ast (tE C W X.K H0 P0 (.mv i)) := h.imp fun σ H Q ⟨env, T, r, s, e, q, _⟩ => by
  rw [evE] at e
  cases ed : env[i]? with
  | none => rw [ed] at e; cases e
  | some d =>
    rw [ed] at e
    have hn : d.isHole = false := by cases d <;> first | rfl | (cases e)
    have e' : some (R.ok (Tm.val d) (env.set i .hole)) = some r := by cases d <;> first | exact e | (cases e)
    cases e'
    obtain ⟨v, hv, s2⟩ := s.mv ed hn
    exact ⟨v, hv, q _ _ rfl v H s2 trivial⟩
theorem sE_fr {i : Nat} {ast : Expr} (h : PE X ast (tVar i)) : PE X ast (tE C W X.K H0 P0 (.fr i)) := h.imp fun σ H Q ⟨env, T, r, s, e, q, _⟩ => by
  rw [evE] at e
  cases ed : env[i]? with
  | none => rw [ed] at e; cases e
  | some d =>
    rw [ed] at e
    have hn : d.isHole = false := by cases d <;> first | rfl | (cases e)
    have e' : some (R.ok (Tm.val d.share) (env.set i d.share)) = some r := by cases d <;> first | exact e | (cases e)
    cases e'
    obtain ⟨v, hv, s2⟩ := s.fr ed hn
    exact ⟨v, hv, q _ _ rfl v H s2 trivial⟩
theorem sE_bo {i : Nat} {ast : Expr} (h : PE X ast (tVar i)) : PE X ast (tE C W X.K H0 P0 (.bo i)) := h.imp fun σ H Q ⟨env, T, r, s, e, q, _⟩ => by
  rw [evE] at e
  cases ed : env[i]? with
  | none => rw [ed] at e; cases e
  | some d =>
    rw [ed] at e
    have hn : d.isHole = false := by cases d <;> first | rfl | (cases e)
    have e' : some (R.ok (Tm.bor i) env) = some r := by cases d <;> first | exact e | (cases e)
    cases e'
    obtain ⟨v, f, s', hv, r⟩ := s.slot ed hn
    exact ⟨v, hv, q _ _ rfl v H (s.put (.hole v)) hv⟩
theorem sE_lit {d : D} {v : V} {ast : Expr} (h : PE X ast (tC v)) (hr : ∀ H, Rep X.K H v d [] []) : PE X ast (tE C W X.K H0 P0 (.lit d)) := h.imp fun σ H Q ⟨env, T, r, s, e, q, _⟩ => by
  rw [evE] at e
  by_cases ha : litD d = true
  · rw [if_pos ha] at e
    cases e
    exact q _ _ rfl v H (s.put (hr H)) trivial
  · rw [if_neg ha] at e; cases e
theorem sE_glb {x : Str} {pos : Pos} (ok : XOk C X W) (hg : Gl X x) (hd : (x == ("__debug__" : Str)) = false) : PE X (.Name x pos) (tE C W X.K H0 P0 (.glb x)) := by
  refine ⟨fun pins s σ H Q I ⟨env, T, r, sr, e, q, _⟩ => ?_⟩
  rw [evE] at e
  cases ed : C.glb x with
  | none => rw [ed] at e; cases e
  | some d =>
    rw [ed] at e
    cases e
    obtain ⟨v, u, hm, rv, hr⟩ := ok.glb x d ed
    exact (pe_glob hg hm rv hd).run pins s σ H Q I (q _ _ rfl v H (sr.put (hr H)) trivial)

section
variable {K : PySem.W.Frag} {H H' : Hp} {env : Env} {σ : L2.St} {T U : List (D × V)}
theorem seen {t : Tm} {v : V} {x : D} (h : SR K H0 P0 env σ (U ++ (t.d, v) :: T) H) (a : t.at σ v) (e : raw env t = some x) (hx : x.isHole = false) : ∃ f s, Rep K H v x f s := by
  cases t with
  | val d =>
    have e' : d = x := Option.some.inj e
    subst e'
    obtain ⟨f, s, r, _⟩ := (SR.pop (W := U) h).rep
    exact ⟨f, s, r⟩
  | bor i =>
    have e' : env[i]? = some x := e
    obtain ⟨w, f, s, hw, r⟩ := h.slot e' hx
    have a' : σ[i]? = some (some v) := a
    rw [a'] at hw
    cases hw
    exact ⟨f, s, r⟩
theorem res_raw {t : Tm} {x : D} (e : res env t = some x) : ∃ y, raw env t = some y ∧ y.isHole = false ∨ (t = .val x) := by
  cases t with
  | val d => exact ⟨x, .inr (by cases e; rfl)⟩
  | bor i =>
    unfold res at e
    dsimp only at e
    split at e
    · cases e
    · next d hne ed => exact ⟨d, .inl ⟨ed, by cases d <;> first | rfl | exact absurd rfl (by assumption)⟩⟩
    · cases e
end

theorem bnd_inv {α β : Type} {x : Out α} {f : α → Env → Out β} {r : R β} (h : bnd x f = some r) : (∃ c e, x = some (.ex c e) ∧ r = .ex c e) ∨ ∃ a e, x = some (.ok a e) ∧ f a e = some r := by
  unfold bnd at h
  split at h
  · cases h
  · cases h; exact .inl ⟨_, _, rfl, rfl⟩
  · exact .inr ⟨_, _, rfl, h⟩
theorem obnd_inv {α β : Type} {x : Option α} {f : α → Out β} {r : R β} (h : obnd x f = some r) : ∃ a, x = some a ∧ f a = some r := by
  unfold obnd at h
  split at h
  · cases h
  · exact ⟨_, rfl, h⟩
theorem never_PE {e : Expr} {t : TE} (h : ∀ σ H Q, t σ H Q → False) : PE X e t := ⟨fun _ _ σ H Q _ hq => (h σ H Q hq).elim⟩

theorem op_fdivS (ok : XOk C X W) : OpR X (binaryOp .FloorDiv) (rI (fun _ j => j ≠ 0) fun i j => .int (i.fdiv j)) := by
  intro pins s σ H x y v u Q I rx ry h
  obtain ⟨i, j, rfl, rfl, hj, q⟩ := h
  obtain ⟨t1, rfl⟩ := rx
  obtain ⟨t2, rfl⟩ := ry
  obtain ⟨env, l, h1, h2, h3, h4, h5⟩ := ok.frm
  refine floordiv_int hj ⟨.int (i.fdiv j), H, I.tok _, ⟨_, rfl⟩, q⟩ (.inr (PylongRoom.of I.nolimit ok.deep (SeerAt.of (ok.seer.keeps I.bk) ok.tree (I.ok.frames.trans (congrArg some h1)) h2 h3 h4 h5)))
theorem op_mulS : OpR X (binaryOp .Mult) (rI IntMulOk fun i j => .int (i * j)) := opI fun _ _ _ _ _ _ _ hc q => mul_int q hc

/-- what an operator by values asks, out of the core's own answer -/
def OpOk (X : Cx) (H0 : Hp) (P0 : Addr → Prop) (op : D → D → Option D) (r2 : R2) : Prop :=
  ∀ (env : Env) (σ : L2.St) (T : List (D × V)) (H : Hp) (t1 t2 : Tm) (v1 v2 : V) (x y z : D) (Q : VK), SR X.K H0 P0 env σ ((t2.d, v2) :: (t1.d, v1) :: T) H → t1.at σ v1 → t2.at σ v2 → raw env t1 = some x → raw env t2 = some y → op x y = some z →
    (∀ v H', SR X.K H0 P0 env σ ((z, v) :: T) H' → Q v H') → r2 v1 v2 H Q
theorem sE_bin {a b : Expr} {op : Operator} {pos : Pos} {ea eb : E} {r2 : R2} (ha : PE X a (tE C W X.K H0 P0 ea)) (hb : PE X b (tE C W X.K H0 P0 eb)) (ho : OpR X (binaryOp op) r2) (k : OpOk X H0 P0 (opBin C.L op) r2) :
    PE X (.BinOp a op b pos) (tE C W X.K H0 P0 (.bin op ea eb)) := (pe_op ho ha hb).imp fun σ H Q ⟨env, T, r, s, e, q, qx⟩ => by
  rw [evE] at e
  rcases bnd_inv e with ⟨c, e1, h1, rfl⟩ | ⟨t1, e1, h1, e⟩
  · exact ⟨env, T, _, s, h1, (fun _ _ z => nomatch z), qx⟩
  refine ⟨env, T, _, s, h1, fun t' e1' z v1 H1 s1 a1 => ?_, (fun _ _ z => nomatch z)⟩
  cases z
  rcases bnd_inv e with ⟨c, e2, h2, rfl⟩ | ⟨t2, e2, h2, e⟩
  · exact ⟨_, _, _, s1, h2, (fun _ _ z => nomatch z), fun c e z H' s' => by cases z; exact qx _ _ rfl H' s'.pop1⟩
  refine ⟨_, _, _, s1, h2, fun t' e2' z v2 H2 s2 a2 => ?_, (fun _ _ z => nomatch z)⟩
  cases z
  obtain ⟨x, hx, e⟩ := obnd_inv e
  obtain ⟨y, hy, e⟩ := obnd_inv e
  obtain ⟨z, hz, e⟩ := obnd_inv e
  cases e
  exact k _ _ _ _ _ _ _ _ _ _ _ _ s2 a1 a2 hx hy hz fun v H' s' => q _ _ rfl v H' s' trivial

section
variable {K : PySem.W.Frag} {H : Hp} {env : Env} {σ : L2.St} {T : List (D × V)} {t1 t2 : Tm} {v1 v2 : V}
theorem int2 {i j : Int} (s : SR K H0 P0 env σ ((t2.d, v2) :: (t1.d, v1) :: T) H) (a1 : t1.at σ v1) (a2 : t2.at σ v2) (h1 : raw env t1 = some (.int i)) (h2 : raw env t2 = some (.int j)) : v1 = .int i ∧ v2 = .int j ∧ SR K H0 P0 env σ T H := by
  obtain ⟨_, _, r1⟩ := seen (U := [(t2.d, v2)]) s a1 h1 rfl
  obtain ⟨_, _, r2⟩ := seen (U := []) s a2 h2 rfl
  cases r1
  cases r2
  exact ⟨rfl, rfl, s.pop1.pop1⟩
theorem str2 {i j : Str} (s : SR K H0 P0 env σ ((t2.d, v2) :: (t1.d, v1) :: T) H) (a1 : t1.at σ v1) (a2 : t2.at σ v2) (h1 : raw env t1 = some (.str i)) (h2 : raw env t2 = some (.str j)) : v1 = .str i ∧ v2 = .str j ∧ SR K H0 P0 env σ T H := by
  obtain ⟨_, _, r1⟩ := seen (U := [(t2.d, v2)]) s a1 h1 rfl
  obtain ⟨_, _, r2⟩ := seen (U := []) s a2 h2 rfl
  cases r1
  cases r2
  exact ⟨rfl, rfl, s.pop1.pop1⟩
end

/-- the things of a list or a tuple, shared, are put ahead -/
def Kid (K : PySem.W.Frag) (H : Hp) (x : D) (v : V) (us : List V) : Prop := ∃ a, v = .ref a ∧ ((∃ ds, x = .tup ds ∧ SqT K H a us) ∨ (∃ ds, x = .lst .ow ds ∧ H a = some (.lst us)) ∨ (∃ ds, x = .lst .sh ds ∧ H a = some (.lst us)) ∨ ∃ ds, x = .lst .fz ds ∧ FzL K H a us)
def D.kids : D → List D
  | .tup ds => ds
  | .lst _ ds => ds
  | _ => []
def D.isSeq : D → Bool
  | .tup _ => true
  | .lst _ _ => true
  | _ => false
theorem kid_of {K : PySem.W.Frag} {H : Hp} {v : V} {x : D} {f s : List Addr} (r : Rep K H v x f s) (hs : x.isSeq = true) (hn : noOwL x.kids = true) : ∃ us su, Reps K H us x.kids [] su ∧ (∀ a ∈ su, a ∈ s) ∧ Kid K H x v us := by
  cases r with
  | tup h r => have := Reps.noOw r hn; subst this; exact ⟨_, _, r, fun _ z => z, _, rfl, .inl ⟨_, rfl, h⟩⟩
  | sh h r => exact ⟨_, _, r, fun _ z => List.mem_cons_of_mem _ z, _, rfl, .inr (.inr (.inl ⟨_, rfl, h⟩))⟩
  | fz h r => exact ⟨_, _, r, fun _ z => z, _, rfl, .inr (.inr (.inr ⟨_, rfl, h⟩))⟩
  | ow h r => have := Reps.noOw r hn; subst this; exact ⟨_, _, r, fun _ z => z, _, rfl, .inr (.inl ⟨_, rfl, h⟩)⟩
  | _ => simp [D.isSeq] at hs
theorem seq_hole {x : D} (h : x.isSeq = true) : x.isHole = false := by cases x <;> first | rfl | (simp [D.isSeq] at h)
theorem SR.alsoAt {K : PySem.W.Frag} {H : Hp} {env : Env} {σ : L2.St} {T : List (D × V)} {j : Nat} {d : D} {v : V} {U : List D} {P : List V → Prop} (h : SR K H0 P0 env σ T H) (ej : T[j]? = some (d, v))
    (k : ∀ f s, Rep K H v d f s → ∃ us su, Reps K H us U [] su ∧ (∀ a ∈ su, a ∈ s) ∧ P us) : ∃ us, SR K H0 P0 env σ (U.zip us ++ T) H ∧ us.length = U.length ∧ P us := by
  have hj : j < T.length := (List.getElem?_eq_some_iff.mp ej).1
  have e1 : (T.map (·.1) ++ env)[j]? = some d := by rw [List.getElem?_append_left (by simpa using hj), List.getElem?_map, ej]; rfl
  have e2 : (T.map (·.2) ++ svs env σ)[j]? = some v := by rw [List.getElem?_append_left (by simpa using hj), List.getElem?_map, ej]; rfl
  obtain ⟨us, h1, hp⟩ := SRi.also (cs := U) (P := P) (j := j) h.sr e1 (fun w f s e3 q => by
    rw [e2] at e3
    cases e3
    exact k f s q)
  have hl : us.length = U.length := by
    have := h1.len
    have h0 := h.sr.len
    simp only [List.length_append] at this h0
    omega
  refine ⟨us, ⟨h.len, h.has, ?_⟩, hl, hp⟩
  rw [List.map_append, List.map_append, List.append_assoc, List.append_assoc]
  have e1 : (U.zip us).map (·.1) = U := List.map_fst_zip (by omega)
  have e2 : (U.zip us).map (·.2) = us := List.map_snd_zip (by omega)
  rw [e1, e2]
  exact h1
theorem SR.kids {K : PySem.W.Frag} {H : Hp} {env : Env} {σ : L2.St} {T : List (D × V)} {j : Nat} {t : Tm} {v : V} {x : D} (h : SR K H0 P0 env σ T H) (ej : T[j]? = some (t.d, v)) (a : t.at σ v) (e : raw env t = some x) (hs : x.isSeq = true) (hn : noOwL x.kids = true) :
    ∃ us, SR K H0 P0 env σ (x.kids.zip us ++ T) H ∧ us.length = x.kids.length ∧ Kid K H x v us := by
  cases t with
  | val d =>
    have e' : d = x := Option.some.inj e
    subst e'
    exact SR.alsoAt h ej fun f s r => kid_of r hs hn
  | bor i =>
    have a' : σ[i]? = some (some v) := a
    exact SR.alsoSlot h (show env[i]? = some x from e) (seq_hole hs) fun w f s hw r => by
      rw [a'] at hw
      cases hw
      exact kid_of r hs hn
theorem zip_fst {us : List V} {ds : List D} (h : us.length = ds.length) : (ds.zip us).map (·.1) = ds := List.map_fst_zip (by omega)
theorem zip_snd {us : List V} {ds : List D} (h : us.length = ds.length) : (ds.zip us).map (·.2) = us := List.map_snd_zip (by omega)
theorem same_new {H : Hp} {p : Addr} {o : HO} (h : H p = none) : Same H (L2.upd H p o) := fun b x e => by
  rw [upd_ne (ne_of_none e h)]
  exact e
/-- a new list of what waits first (in some order of its own) -/
theorem SR.newL {K : PySem.W.Frag} {H : Hp} {env : Env} {σ : L2.St} {T U : List (D × V)} {p : Addr} {ds : List D} {vs : List V} (h : SR K H0 P0 env σ (U ++ T) H) (hp : H p = none)
    (k : ∀ fa sa, Reps K H (U.map (·.2)) (U.map (·.1)) fa sa → fa.Nodup → (∀ a ∈ fa, a ∉ sa) → ∃ fa' sa', Reps K H vs ds fa' sa' ∧ fa'.Nodup ∧ (∀ a ∈ fa', a ∈ fa) ∧ ∀ a ∈ sa', a ∈ sa) : SR K H0 P0 env σ ((.lst .ow ds, .ref p) :: T) (L2.upd H p (.lst vs)) :=
  SR.step (W' := [(.lst .ow ds, .ref p)]) h (same_new hp) fun fa sa r n dj => by
    obtain ⟨fa', sa', r', n', k1, k2⟩ := k fa sa r n dj
    have th := r'.there
    refine ⟨(p :: fa') ++ [], sa' ++ [], .cons (.ow upd_same (Reps.same (same_new hp) r')) .nil, ?_, ?_, ?_, ?_⟩
    · rw [List.append_nil]
      exact List.nodup_cons.mpr ⟨fun z => (by obtain ⟨_, e⟩ := th.1 p z; rw [hp] at e; cases e), n'⟩
    · intro a z z2
      rw [List.append_nil] at z z2
      rcases List.mem_cons.mp z with rfl | z
      · obtain ⟨_, e⟩ := th.2 a z2; rw [hp] at e; cases e
      · exact dj a (k1 a z) (k2 a z2)
    · intro a z
      rw [List.append_nil] at z
      rcases List.mem_cons.mp z with rfl | z
      · exact .inr hp
      · exact .inl (k1 a z)
    · intro a z
      rw [List.append_nil] at z
      exact .inl (k2 a z)
theorem SR.newT {K : PySem.W.Frag} {H : Hp} {env : Env} {σ : L2.St} {T U : List (D × V)} {p : Addr} (h : SR K H0 P0 env σ (U ++ T) H) (hp : H p = none) : SR K H0 P0 env σ ((D.tup (U.map (fun x => x.1)), V.ref p) :: T) (L2.upd H p (HO.tup (U.map (fun x => x.2)))) :=
  SR.step (H' := L2.upd H p (HO.tup (U.map (fun x : D × V => x.2)))) (W' := [(D.tup (U.map (fun x : D × V => x.1)), V.ref p)]) h (same_new hp) fun fa sa r n dj => by
    refine ⟨fa ++ [], sa ++ [], .cons (.tup (SqT.of upd_same) (Reps.same (same_new hp) r)) .nil, by rw [List.append_nil]; exact n, fun a z z2 => ?_, fun a z => ?_, fun a z => ?_⟩
    · rw [List.append_nil] at z z2; exact dj a z z2
    · rw [List.append_nil] at z; exact .inl z
    · rw [List.append_nil] at z; exact .inl z

/-- a new dict -/
theorem SR.newD {K : PySem.W.Frag} {H : Hp} {env : Env} {σ : L2.St} {T : List (D × V)} {p : Addr} {kvs : List (Key × V)} (h : SR K H0 P0 env σ T H) (hp : H p = none) : SR K H0 P0 env σ ((D.dct, V.ref p) :: T) (L2.upd H p (HO.dK kvs)) :=
  SR.step (W := []) (H' := L2.upd H p (HO.dK kvs)) (W' := [(D.dct, V.ref p)]) h (same_new hp) fun fa sa r n dj => by
    cases r
    exact ⟨[] ++ [], [] ++ [], .cons (.dct upd_same) .nil, by simp, fun a z => by simp at z, fun a z => by simp at z, fun a z => by simp at z⟩
theorem sE_dct {k w : Str} {j j2 : Nat} {p p2 pos : Pos} : PE X (.Dict [some (.Constant (.str k) j p)] [.Constant (.str w) j2 p2] pos) (tE C W X.K H0 P0 (.lit .dct)) :=
  (pe_disp (pps_cons pe_str pe_str pps_nil) rfl rfl (by simp) (by simp)).imp fun σ H Q ⟨env, T, r, s, e, q, _⟩ => by
    rw [evE] at e
    cases e
    intro a ha
    refine ⟨upd_same, [(.inr k, .str w)], rfl, by simp, ?_⟩
    rw [L2.upd_upd]
    exact q _ _ rfl _ _ (SR.newD s ha) trivial

theorem ok_sub : OpOk X H0 P0 (opBin C.L .Sub) (rI0 fun i j => .int (i - j)) := fun env σ T H t1 t2 v1 v2 x y z Q s a1 a2 hx hy hz q => by
  cases x <;> cases y <;> first | (simp [opBin] at hz; done) | skip
  simp only [opBin, Option.some.injEq] at hz
  subst hz
  obtain ⟨rfl, rfl, s'⟩ := int2 s a1 a2 hx hy
  exact ⟨_, _, rfl, rfl, q _ _ (s'.put (.int _))⟩
theorem ok_mod : OpOk X H0 P0 (opBin C.L .Mod) (rI (fun _ j => j ≠ 0) fun i j => .int (i.fmod j)) := fun env σ T H t1 t2 v1 v2 x y z Q s a1 a2 hx hy hz q => by
  cases x <;> cases y <;> first | (simp [opBin] at hz; done) | skip
  simp only [opBin] at hz
  split at hz
  · cases hz
  next h0 =>
  cases hz
  obtain ⟨rfl, rfl, s'⟩ := int2 s a1 a2 hx hy
  exact ⟨_, _, rfl, rfl, h0, q _ _ (s'.put (.int _))⟩
theorem ok_fdiv : OpOk X H0 P0 (opBin C.L .FloorDiv) (rI (fun _ j => j ≠ 0) fun i j => .int (i.fdiv j)) := fun env σ T H t1 t2 v1 v2 x y z Q s a1 a2 hx hy hz q => by
  cases x <;> cases y <;> first | (simp [opBin] at hz; done) | skip
  simp only [opBin] at hz
  split at hz
  · cases hz
  next h0 =>
  cases hz
  obtain ⟨rfl, rfl, s'⟩ := int2 s a1 a2 hx hy
  exact ⟨_, _, rfl, rfl, h0, q _ _ (s'.put (.int _))⟩
theorem ok_pow : OpOk X H0 P0 (opBin C.L .Pow) (rI CPow fun i j => .int (i ^ j.toNat)) := fun env σ T H t1 t2 v1 v2 x y z Q s a1 a2 hx hy hz q => by
  cases x <;> cases y <;> first | (simp [opBin] at hz; done) | skip
  simp only [opBin] at hz
  split at hz
  · next h0 =>
    cases hz
    obtain ⟨rfl, rfl, s'⟩ := int2 s a1 a2 hx hy
    exact ⟨_, _, rfl, rfl, ⟨h0.1, by omega, Nat.lt_of_lt_of_le h0.2.2 (by decide)⟩, q _ _ (s'.put (.int _))⟩
  · cases hz
theorem lst_isSeq {k : LK} {ds : List D} : (D.lst k ds).isSeq = true := rfl
theorem ok_add (ok : XOk C X W) : OpOk X H0 P0 (opBin C.L .Add) (fun x y H Q => rI0 (fun i j => .int (i + j)) x y H Q ∨ (∃ i j, x = .str i ∧ y = .str j ∧ i.length + j.length ≤ sizeLine ∧ Q (.str (i ++ j)) H) ∨ rCat x y H Q) := fun env σ T H t1 t2 v1 v2 x y z Q s a1 a2 hx hy hz q => by
  have cat : ∀ {k1 k2 : LK} {xs ys : List D}, x = .lst k1 xs → y = .lst k2 ys → (k1 = .ow ∨ k1 = .sh) → (k2 = .ow ∨ k2 = .sh) → (bif noOwL xs && noOwL ys && C.L.len (xs.length + ys.length) then some (D.lst .ow (xs ++ ys)) else none) = some z → rCat v1 v2 H Q := by
    intro k1 k2 xs ys e1 e2 hk1 hk2 hw
    subst e1 e2
    cases hc : noOwL xs && noOwL ys && C.L.len (xs.length + ys.length) with
    | false => rw [hc] at hw; cases hw
    | true =>
      rw [hc] at hw
      cases hw
      obtain ⟨hc1, hc3⟩ := and2 hc
      obtain ⟨hc1, hc2⟩ := and2 hc1
      obtain ⟨us, s1, l1, b1, rfl, kd1⟩ := SR.kids (j := 1) s rfl a1 hx lst_isSeq hc1
      have g2 : (((D.lst k1 xs).kids.zip us) ++ (t2.d, v2) :: (t1.d, V.ref b1) :: T)[us.length]? = some (t2.d, v2) := by
        rw [List.getElem?_append_right (by rw [List.length_zip]; simp [D.kids] at l1; simp [D.kids]; omega)]
        rw [List.length_zip]
        simp [D.kids] at l1
        simp [D.kids, l1]
      obtain ⟨ws, s2, l2, b2, rfl, kd2⟩ := SR.kids (j := us.length) s1 g2 a2 hy lst_isSeq hc2
      have n1 : H b1 = some (.lst us) := by
        rcases kd1 with ⟨_, e, h⟩ | ⟨_, e, h⟩ | ⟨_, e, h⟩ | ⟨_, e, h⟩
        · cases e
        · exact h
        · exact h
        · cases e; rcases hk1 with z | z <;> cases z
      have n2 : H b2 = some (.lst ws) := by
        rcases kd2 with ⟨_, e, h⟩ | ⟨_, e, h⟩ | ⟨_, e, h⟩ | ⟨_, e, h⟩
        · cases e
        · exact h
        · exact h
        · cases e; rcases hk2 with z | z <;> cases z
      have l1' : us.length = xs.length := l1
      have l2' : ws.length = ys.length := l2
      refine ⟨b1, b2, us, ws, rfl, rfl, n1, n2, by rw [l1', l2']; exact Nat.le_of_lt (ok.len _ hc3), fun p hp => q _ _ ?_⟩
      have s3 : SR X.K H0 P0 env σ ((ys.zip ws ++ xs.zip us) ++ ((t2.d, V.ref b2) :: (t1.d, V.ref b1) :: T)) H := by rw [List.append_assoc]; exact s2
      have s4 := SR.newL (vs := us ++ ws) (ds := xs ++ ys) s3 hp (fun fa sa r n dj => by
        rw [List.map_append, List.map_append, zip_fst l2', zip_fst l1', zip_snd l2', zip_snd l1'] at r
        obtain ⟨va, vb, fx, fy, sx, sy, e, rfl, rfl, r1, r2⟩ := Reps.split r
        obtain ⟨e1, e2⟩ := List.append_inj e (by rw [l2', r1.length])
        subst e1 e2
        have z1 := Reps.noOw r1 hc2
        have z2 := Reps.noOw r2 hc1
        subst z1 z2
        exact ⟨[], sy ++ sx, Reps.append (fp := []) r2 r1, .nil, (fun _ z => nomatch z), fun a z => List.mem_append.mpr ((List.mem_append.mp z).symm)⟩)
      exact SR.step (W := [_, _, _]) (W' := [_]) s4 (Same.refl _) fun fa sa r n dj => by
        cases r with
        | cons r1 r2 =>
          rename_i f1 s1' f2 s2'
          refine ⟨f1 ++ [], s1' ++ [], .cons r1 .nil, by rw [List.append_nil]; exact (List.nodup_append.mp n).1, fun a z z2 => ?_, fun a z => .inl ?_, fun a z => .inl ?_⟩
          · rw [List.append_nil] at z z2
            exact dj a (List.mem_append_left _ z) (List.mem_append_left _ z2)
          · rw [List.append_nil] at z; exact List.mem_append_left _ z
          · rw [List.append_nil] at z; exact List.mem_append_left _ z
  cases x <;> cases y <;> first | (simp [opBin] at hz; done) | skip
  · simp only [opBin, Option.some.injEq] at hz
    subst hz
    obtain ⟨rfl, rfl, s'⟩ := int2 s a1 a2 hx hy
    exact .inl ⟨_, _, rfl, rfl, q _ _ (s'.put (.int _))⟩
  · next i j =>
    simp only [opBin] at hz
    cases hc : C.L.len (i.length + j.length) with
    | false => rw [hc] at hz; cases hz
    | true =>
      rw [hc] at hz
      cases hz
      obtain ⟨rfl, rfl, s'⟩ := str2 s a1 a2 hx hy
      exact .inr (.inl ⟨_, _, rfl, rfl, Nat.le_of_lt (ok.len _ hc), q _ _ (s'.put (.str _))⟩)
  · next k1 xs k2 ys =>
    refine .inr (.inr ?_)
    cases k1 <;> cases k2 <;> first | (simp [opBin] at hz; done) | (simp only [opBin] at hz; exact cat rfl rfl (by simp) (by simp) hz)
end
end TV
namespace TV
open PySem PySem.Spec PyProof.Rows L2
section
variable {C : Ctx} {W : Wish} {X : Cx} {H0 : Hp} {P0 : Addr → Prop}

theorem SR.drop2 {K : PySem.W.Frag} {H : Hp} {env : Env} {σ : L2.St} {T : List (D × V)} {p q r : D × V} (h : SR K H0 P0 env σ (p :: q :: r :: T) H) : SR K H0 P0 env σ (p :: T) H :=
  SR.step (W := [p, q, r]) (W' := [p]) h (Same.refl _) fun fa sa r n dj => by
    cases r with
    | cons r1 r2 =>
      rename_i f1 s1' f2 s2'
      refine ⟨f1 ++ [], s1' ++ [], .cons r1 .nil, by rw [List.append_nil]; exact (List.nodup_append.mp n).1, fun a z z2 => ?_, fun a z => .inl ?_, fun a z => .inl ?_⟩
      · rw [List.append_nil] at z z2
        exact dj a (List.mem_append_left _ z) (List.mem_append_left _ z2)
      · rw [List.append_nil] at z; exact List.mem_append_left _ z
      · rw [List.append_nil] at z; exact List.mem_append_left _ z
theorem SR.drop1 {K : PySem.W.Frag} {H : Hp} {env : Env} {σ : L2.St} {T : List (D × V)} {p q : D × V} (h : SR K H0 P0 env σ (p :: q :: T) H) : SR K H0 P0 env σ (p :: T) H :=
  SR.step (W := [p, q]) (W' := [p]) h (Same.refl _) fun fa sa r n dj => by
    cases r with
    | cons r1 r2 =>
      rename_i f1 s1' f2 s2'
      refine ⟨f1 ++ [], s1' ++ [], .cons r1 .nil, by rw [List.append_nil]; exact (List.nodup_append.mp n).1, fun a z z2 => ?_, fun a z => .inl ?_, fun a z => .inl ?_⟩
      · rw [List.append_nil] at z z2
        exact dj a (List.mem_append_left _ z) (List.mem_append_left _ z2)
      · rw [List.append_nil] at z; exact List.mem_append_left _ z
      · rw [List.append_nil] at z; exact List.mem_append_left _ z

theorem reps_rep {K : PySem.W.Frag} {H : Hp} {vs : List V} {ds : List D} {s : List Addr} (r : Reps K H vs ds [] s) : ∀ n : Nat, ∃ s', Reps K H (List.replicate n vs).flatten (List.replicate n ds).flatten [] s' ∧ ∀ a ∈ s', a ∈ s
  | 0 => ⟨[], .nil, (fun _ z => nomatch z)⟩
  | n + 1 => by
    obtain ⟨s', r', k⟩ := reps_rep r n
    refine ⟨s ++ s', Reps.append (fp := []) r r', fun a z => ?_⟩
    rcases List.mem_append.mp z with z | z
    · exact z
    · exact k a z
theorem len_rep {α : Type} (xs : List α) : ∀ n : Nat, (List.replicate n xs).flatten.length = xs.length * n
  | 0 => rfl
  | n + 1 => by rw [List.replicate_succ, List.flatten_cons, List.length_append, len_rep xs n, Nat.mul_succ, Nat.add_comm]
theorem ok_mul (ok : XOk C X W) : OpOk X H0 P0 (opBin C.L .Mult) (fun x y H Q => rI IntMulOk (fun i j => .int (i * j)) x y H Q ∨ rRep x y H Q) := fun env σ T H t1 t2 v1 v2 x y z Q s a1 a2 hx hy hz q => by
  cases x <;> cases y <;> first | (simp [opBin] at hz; done) | skip
  · next i j =>
    simp only [opBin] at hz
    cases hc : C.L.mul i j with
    | false => rw [hc] at hz; cases hz
    | true =>
      rw [hc] at hz
      cases hz
      obtain ⟨rfl, rfl, s'⟩ := int2 s a1 a2 hx hy
      exact .inl ⟨_, _, rfl, rfl, ok.mul _ _ hc, q _ _ (s'.put (.int _))⟩
  · next k xs n =>
    cases k <;> first | (simp [opBin] at hz; done) | skip
    simp only [opBin] at hz
    cases hc : noOwL xs && C.L.rng n && C.L.len (xs.length * n.toNat) with
    | false => rw [hc] at hz; cases hz
    | true =>
      rw [hc] at hz
      cases hz
      obtain ⟨hc1, hc3⟩ := and2 hc
      obtain ⟨hc1, hc2⟩ := and2 hc1
      obtain ⟨us, s1, l1, b1, rfl, kd1⟩ := SR.kids (j := 1) s rfl a1 hx (x := .lst .ow xs) rfl hc1
      have n1 : H b1 = some (.lst us) := by
        rcases kd1 with ⟨_, e, h⟩ | ⟨_, e, h⟩ | ⟨_, e, h⟩ | ⟨_, e, h⟩
        · cases e
        · exact h
        · cases e
        · cases e
      have l1' : us.length = xs.length := l1
      obtain ⟨_, _, r2⟩ := seen (U := []) s a2 hy rfl
      cases r2
      obtain ⟨b1', b2'⟩ := ok.rng _ hc2
      refine .inr ⟨b1, n, us, rfl, rfl, n1, by omega, by omega, by rw [l1']; exact Nat.le_of_lt (ok.len _ hc3), fun p hp => q _ _ ?_⟩
      have s4 := SR.newL (vs := (List.replicate n.toNat us).flatten) (ds := (List.replicate n.toNat xs).flatten) s1 hp (fun fa sa r n dj => by
        rw [zip_fst l1, zip_snd l1] at r
        have z1 := Reps.noOw r hc1
        subst z1
        obtain ⟨s', r', k⟩ := reps_rep r _
        exact ⟨[], s', r', .nil, (fun _ z => nomatch z), k⟩)
      exact s4.drop2

theorem sE_neg {a : Expr} {pos : Pos} {ea : E} (ha : PE X a (tE C W X.K H0 P0 ea)) : PE X (.UnaryOp .USub a pos) (tE C W X.K H0 P0 (.neg ea)) := (pe_un un_neg ha).imp fun σ H Q ⟨env, T, r, s, e, q, qx⟩ => by
  rw [evE] at e
  rcases bnd_inv e with ⟨c, e1, h1, rfl⟩ | ⟨t1, e1, h1, e⟩
  · exact ⟨env, T, _, s, h1, (fun _ _ z => nomatch z), qx⟩
  refine ⟨env, T, _, s, h1, fun t' e1' z v1 H1 s1 a1 => ?_, (fun _ _ z => nomatch z)⟩
  cases z
  obtain ⟨x, hx, e⟩ := obnd_inv e
  obtain ⟨z, hz, e⟩ := obnd_inv e
  cases e
  cases x <;> first | (simp [opNeg] at hz; done) | skip
  simp only [opNeg, Option.some.injEq] at hz
  subst hz
  obtain ⟨_, _, r1⟩ := seen (U := []) s1 a1 hx rfl
  cases r1
  exact ⟨_, rfl, q _ _ rfl _ _ (s1.pop1.put (.int _)) trivial⟩
theorem sE_not {a : Expr} {pos : Pos} {ea : E} (ha : PE X a (tE C W X.K H0 P0 ea)) : PE X (.UnaryOp .Not a pos) (tE C W X.K H0 P0 (.not ea)) := (pe_not ha).imp fun σ H Q ⟨env, T, r, s, e, q, qx⟩ => by
  rw [evE] at e
  rcases bnd_inv e with ⟨c, e1, h1, rfl⟩ | ⟨t1, e1, h1, e⟩
  · exact ⟨env, T, _, s, h1, (fun _ _ z => nomatch z), qx⟩
  refine ⟨env, T, _, s, h1, fun t' e1' z v1 H1 s1 a1 => ?_, (fun _ _ z => nomatch z)⟩
  cases z
  obtain ⟨x, hx, e⟩ := obnd_inv e
  obtain ⟨z, hz, e⟩ := obnd_inv e
  cases e
  cases x <;> first | (simp [opNot] at hz; done) | skip
  simp only [opNot, Option.some.injEq] at hz
  subst hz
  obtain ⟨_, _, r1⟩ := seen (U := []) s1 a1 hx rfl
  cases r1
  exact ⟨_, rfl, q _ _ rfl _ _ (s1.pop1.put (.bl _)) trivial⟩

/-- of an expression that is no test of its own form -/
theorem sT_val {a : Expr} {ea : E} (ha : PE X a (tE C W X.K H0 P0 ea)) (he : ∀ whole, isTrue a X.env whole = (do let v ← whole; standAt a.pos; holding [v] (truthy v))) : PT X a (tT C W X.K H0 P0 ea) := (pt_val ha he).imp fun σ H Q ⟨env, T, r, s, e, q, qx⟩ => by
  refine ⟨env, T, _, s, e, fun t' e1' z v1 H1 s1 a1 => ?_, qx⟩
  obtain ⟨b, hb, k⟩ := q _ _ z
  obtain ⟨_, _, r1⟩ := seen (U := []) s1 a1 hb rfl
  cases r1
  exact ⟨b, rfl, k _ s1.pop1⟩
theorem sT_not {a : Expr} {pos : Pos} {ea : E} (ha : PT X a (tT C W X.K H0 P0 ea)) : PT X (.UnaryOp .Not a pos) (tT C W X.K H0 P0 (.not ea)) := (pt_not ha).imp fun σ H Q ⟨env, T, r, s, e, q, qx⟩ => by
  rw [evE] at e
  rcases bnd_inv e with ⟨c, e1, h1, rfl⟩ | ⟨t1, e1, h1, e⟩
  · exact ⟨env, T, _, s, h1, (fun _ _ z => nomatch z), qx⟩
  refine ⟨env, T, _, s, h1, fun t' e1' z => ?_, (fun _ _ z => nomatch z)⟩
  cases z
  obtain ⟨x, hx, e⟩ := obnd_inv e
  obtain ⟨z, hz, e⟩ := obnd_inv e
  cases e
  cases x <;> first | (simp [opNot] at hz; done) | skip
  simp only [opNot, Option.some.injEq] at hz
  subst hz
  obtain ⟨b, hb, k⟩ := q _ _ rfl
  cases hb
  exact ⟨_, hx, k⟩

/-- and, or: values -/
theorem sE_and {a b : Expr} {rest : List Expr} {pos : Pos} {ea eb : E} (ha : PE X a (tE C W X.K H0 P0 ea)) (hb : PE X (.BoolOp .And (b :: rest) pos) (tE C W X.K H0 P0 eb)) : PE X (.BoolOp .And (a :: b :: rest) pos) (tE C W X.K H0 P0 (.and ea eb)) := (pe_and ha hb).imp fun σ H Q ⟨env, T, r, s, e, q, qx⟩ => by
  rw [evE] at e
  rcases bnd_inv e with ⟨c, e1, h1, rfl⟩ | ⟨t1, e1, h1, e⟩
  · exact ⟨env, T, _, s, h1, (fun _ _ z => nomatch z), qx⟩
  refine ⟨env, T, _, s, h1, fun t' e1' z v1 H1 s1 a1 => ?_, (fun _ _ z => nomatch z)⟩
  cases z
  split at e
  · next hx =>
    obtain ⟨_, _, r1⟩ := seen (U := []) s1 a1 hx rfl
    cases r1
    refine ⟨true, rfl, iteT ?_⟩
    rcases bnd_inv e with ⟨c, e2, h2, rfl⟩ | ⟨t2, e2, h2, e⟩
    · exact ⟨_, _, _, s1.pop1, h2, (fun _ _ z => nomatch z), qx⟩
    refine ⟨_, _, _, s1.pop1, h2, fun t' e2' z v2 H2 s2 a2 => ?_, (fun _ _ z => nomatch z)⟩
    cases z
    split at e
    · next hy =>
      cases e
      obtain ⟨_, _, r2⟩ := seen (U := []) s2 a2 hy rfl
      cases r2
      exact q _ _ rfl _ _ (s2.pop1.put (.bl _)) trivial
    · cases e
  · next hx =>
    cases e
    obtain ⟨_, _, r1⟩ := seen (U := []) s1 a1 hx rfl
    cases r1
    exact ⟨false, rfl, iteF (q _ _ rfl _ _ (s1.pop1.put (.bl _)) trivial)⟩
  · cases e
theorem sE_or {a b : Expr} {rest : List Expr} {pos : Pos} {ea eb : E} (ha : PE X a (tE C W X.K H0 P0 ea)) (hb : PE X (.BoolOp .Or (b :: rest) pos) (tE C W X.K H0 P0 eb)) : PE X (.BoolOp .Or (a :: b :: rest) pos) (tE C W X.K H0 P0 (.or ea eb)) := (pe_or ha hb).imp fun σ H Q ⟨env, T, r, s, e, q, qx⟩ => by
  rw [evE] at e
  rcases bnd_inv e with ⟨c, e1, h1, rfl⟩ | ⟨t1, e1, h1, e⟩
  · exact ⟨env, T, _, s, h1, (fun _ _ z => nomatch z), qx⟩
  refine ⟨env, T, _, s, h1, fun t' e1' z v1 H1 s1 a1 => ?_, (fun _ _ z => nomatch z)⟩
  cases z
  split at e
  · next hx =>
    obtain ⟨_, _, r1⟩ := seen (U := []) s1 a1 hx rfl
    cases r1
    refine ⟨false, rfl, iteF ?_⟩
    rcases bnd_inv e with ⟨c, e2, h2, rfl⟩ | ⟨t2, e2, h2, e⟩
    · exact ⟨_, _, _, s1.pop1, h2, (fun _ _ z => nomatch z), qx⟩
    refine ⟨_, _, _, s1.pop1, h2, fun t' e2' z v2 H2 s2 a2 => ?_, (fun _ _ z => nomatch z)⟩
    cases z
    split at e
    · next hy =>
      cases e
      obtain ⟨_, _, r2⟩ := seen (U := []) s2 a2 hy rfl
      cases r2
      exact q _ _ rfl _ _ (s2.pop1.put (.bl _)) trivial
    · cases e
  · next hx =>
    cases e
    obtain ⟨_, _, r1⟩ := seen (U := []) s1 a1 hx rfl
    cases r1
    exact ⟨true, rfl, iteT (q _ _ rfl _ _ (s1.pop1.put (.bl _)) trivial)⟩
  · cases e
/-- .. tests -/
theorem _root_.L2.PW.imp {e : Expr} {t t' : TT} (h : PW X e t) (k : ∀ σ H Q, t' σ H Q → t σ H Q) : PW X e t' := ⟨fun w pins s σ H Q I hq => h.run w pins s σ H Q I (k σ H Q hq)⟩
theorem sT_and {a b : Expr} {rest : List Expr} {pos : Pos} {ea eb : E} (ha : PT X a (tT C W X.K H0 P0 ea)) (hb : PW X (.BoolOp .And (b :: rest) pos) (tT C W X.K H0 P0 eb)) : PW X (.BoolOp .And (a :: b :: rest) pos) (tT C W X.K H0 P0 (.and ea eb)) := (pw_and ha hb).imp fun σ H Q ⟨env, T, r, s, e, q, qx⟩ => by
  rw [evE] at e
  rcases bnd_inv e with ⟨c, e1, h1, rfl⟩ | ⟨t1, e1, h1, e⟩
  · exact ⟨env, T, _, s, h1, (fun _ _ z => nomatch z), qx⟩
  refine ⟨env, T, _, s, h1, fun t' e1' z => ?_, (fun _ _ z => nomatch z)⟩
  cases z
  split at e
  · next hx =>
    refine ⟨true, hx, fun H1 s1 => iteT ?_⟩
    rcases bnd_inv e with ⟨c, e2, h2, rfl⟩ | ⟨t2, e2, h2, e⟩
    · exact ⟨_, _, _, s1, h2, (fun _ _ z => nomatch z), qx⟩
    refine ⟨_, _, _, s1, h2, fun t' e2' z => ?_, (fun _ _ z => nomatch z)⟩
    cases z
    split at e
    · next hy =>
      cases e
      obtain ⟨b, hb, k⟩ := q _ _ rfl
      cases hb
      exact ⟨_, hy, k⟩
    · cases e
  · next hx =>
    cases e
    obtain ⟨b, hb, k⟩ := q _ _ rfl
    cases hb
    exact ⟨false, hx, fun H1 s1 => iteF (k _ s1)⟩
  · cases e
theorem sT_or {a b : Expr} {rest : List Expr} {pos : Pos} {ea eb : E} (ha : PT X a (tT C W X.K H0 P0 ea)) (hb : PW X (.BoolOp .Or (b :: rest) pos) (tT C W X.K H0 P0 eb)) : PW X (.BoolOp .Or (a :: b :: rest) pos) (tT C W X.K H0 P0 (.or ea eb)) := (pw_or ha hb).imp fun σ H Q ⟨env, T, r, s, e, q, qx⟩ => by
  rw [evE] at e
  rcases bnd_inv e with ⟨c, e1, h1, rfl⟩ | ⟨t1, e1, h1, e⟩
  · exact ⟨env, T, _, s, h1, (fun _ _ z => nomatch z), qx⟩
  refine ⟨env, T, _, s, h1, fun t' e1' z => ?_, (fun _ _ z => nomatch z)⟩
  cases z
  split at e
  · next hx =>
    refine ⟨false, hx, fun H1 s1 => iteF ?_⟩
    rcases bnd_inv e with ⟨c, e2, h2, rfl⟩ | ⟨t2, e2, h2, e⟩
    · exact ⟨_, _, _, s1, h2, (fun _ _ z => nomatch z), qx⟩
    refine ⟨_, _, _, s1, h2, fun t' e2' z => ?_, (fun _ _ z => nomatch z)⟩
    cases z
    split at e
    · next hy =>
      cases e
      obtain ⟨b, hb, k⟩ := q _ _ rfl
      cases hb
      exact ⟨_, hy, k⟩
    · cases e
  · next hx =>
    cases e
    obtain ⟨b, hb, k⟩ := q _ _ rfl
    cases hb
    exact ⟨true, hx, fun H1 s1 => iteT (k _ s1)⟩
  · cases e

mutual
theorem rep_dp {K : PySem.W.Frag} {H : Hp} : ∀ {v d f s}, Rep K H v d f s → d.whole = true → Dp K H v d.py
  | _, _, _, _, .hole v, h => by simp [D.whole] at h
  | _, _, _, _, .non, _ => .non
  | _, _, _, _, .bl b, _ => .bl b
  | _, _, _, _, .int i, _ => .int i
  | _, _, _, _, .str x, _ => .str x
  | _, _, _, _, .tup h r, w => .tup h (reps_dp r (by simpa [D.whole] using w))
  | _, _, _, _, .sh h r, w => .lst (SqL.of h) (reps_dp r (by simpa [D.whole] using w))
  | _, _, _, _, .fz h r, w => .lst h.sq (reps_dp r (by simpa [D.whole] using w))
  | _, _, _, _, .ow h r, w => .lst (SqL.of h) (reps_dp r (by simpa [D.whole] using w))
  | _, _, _, _, .dct _, w => by simp [D.whole] at w
theorem reps_dp {K : PySem.W.Frag} {H : Hp} : ∀ {vs ds f s}, Reps K H vs ds f s → wholeL ds = true → DpAll K H vs (pyL ds)
  | _, _, _, _, .nil, _ => .nil
  | _, _, _, _, .cons h r, w => by
    rw [wholeL] at w
    exact .cons (rep_dp h (and2 w).1) (reps_dp r (and2 w).2)
end
mutual
theorem share_py : ∀ d : D, d.share.py = d.py
  | .hole => rfl
  | .non => rfl
  | .bl _ => rfl
  | .int _ => rfl
  | .str _ => rfl
  | .tup ds => by rw [D.share, D.py, D.py, shareL_py ds]
  | .lst .ow ds => by rw [D.share, D.py, D.py, shareL_py ds]
  | .lst .sh ds => by rw [D.share]
  | .lst .fz ds => by rw [D.share]
  | .dct => rfl
theorem shareL_py : ∀ ds : List D, pyL (shareL ds) = pyL ds
  | [] => rfl
  | d :: ds => by rw [shareL, pyL, pyL, share_py d, shareL_py ds]
end
/-- what is seen at a term: the same thing, perhaps shared -/
theorem seenR {K : PySem.W.Frag} {H : Hp} {env : Env} {σ : L2.St} {T U : List (D × V)} {t : Tm} {v : V} {x : D} (h : SR K H0 P0 env σ (U ++ (t.d, v) :: T) H) (a : t.at σ v) (e : res env t = some x) : ∃ f s, Rep K H v x f s := by
  cases t with
  | val d =>
    cases e
    obtain ⟨f, s, r, _⟩ := (SR.pop (W := U) h).rep
    exact ⟨f, s, r⟩
  | bor i =>
    have a' : σ[i]? = some (some v) := a
    cases ed : env[i]? with
    | none => rw [res, ed] at e; cases e
    | some d =>
      rw [res, ed] at e
      have hn : d.isHole = false := by cases d <;> first | rfl | (cases e)
      have e' : some d.share = some x := by cases d <;> first | exact e | (cases e)
      cases e'
      obtain ⟨w, f, s, hw, r⟩ := h.slot ed hn
      rw [a'] at hw
      cases hw
      obtain ⟨s', r', _⟩ := Rep.share r
      exact ⟨[], s', r'⟩
def CmpOk (X : Cx) (H0 : Hp) (P0 : Addr → Prop) (op : D → D → Option D) (r2 : R2) : Prop :=
  ∀ (H : Hp) (v1 v2 : V) (x y z : D) (f1 s1 f2 s2 : List Addr) (Q : VK), Rep X.K H v1 x f1 s1 → Rep X.K H v2 y f2 s2 → op x y = some z → (∃ b, z = .bl b ∧ (Q (.bl b) H → r2 v1 v2 H Q))
theorem sE_cmp {a b : Expr} {op : CmpOp} {pos : Pos} {ea eb : E} {r2 : R2} (ha : PE X a (tE C W X.K H0 P0 ea)) (hb : PE X b (tE C W X.K H0 P0 eb)) (ho : OpR X (compareOp op) r2) (k : CmpOk X H0 P0 (opCmp C.L op) r2) (hm : behindInMarks op b = false) :
    PE X (.Compare a [op] [b] pos) (tE C W X.K H0 P0 (.cmp op ea eb)) ∧ PT X (.Compare a [op] [b] pos) (tT C W X.K H0 P0 (.cmp op ea eb)) := by
  constructor
  · refine (pe_cmpR ho ha hb hm).imp fun σ H Q ⟨env, T, r, s, e, q, qx⟩ => ?_
    rw [evE] at e
    rcases bnd_inv e with ⟨c, e1, h1, rfl⟩ | ⟨t1, e1, h1, e⟩
    · exact ⟨env, T, _, s, h1, (fun _ _ z => nomatch z), qx⟩
    refine ⟨env, T, _, s, h1, fun t' e1' z v1 H1 s1 a1 => ?_, (fun _ _ z => nomatch z)⟩
    cases z
    rcases bnd_inv e with ⟨c, e2, h2, rfl⟩ | ⟨t2, e2, h2, e⟩
    · exact ⟨_, _, _, s1, h2, (fun _ _ z => nomatch z), fun c e z H' s' => by cases z; exact qx _ _ rfl H' s'.pop1⟩
    refine ⟨_, _, _, s1, h2, fun t' e2' z v2 H2 s2 a2 => ?_, (fun _ _ z => nomatch z)⟩
    cases z
    obtain ⟨x, hx, e⟩ := obnd_inv e
    obtain ⟨y, hy, e⟩ := obnd_inv e
    obtain ⟨z, hz, e⟩ := obnd_inv e
    cases e
    obtain ⟨_, _, r1⟩ := seenR (U := [(t2.d, v2)]) s2 a1 hx
    obtain ⟨_, _, r2⟩ := seenR (U := []) s2 a2 hy
    obtain ⟨b, rfl, k'⟩ := k H2 v1 v2 x y z _ _ _ _ Q r1 r2 hz
    exact k' (q _ _ rfl _ _ (s2.pop1.pop1.put (.bl _)) trivial)
  · refine (pt_cmpR ho ha hb hm).imp fun σ H Q ⟨env, T, r, s, e, q, qx⟩ => ?_
    rw [evE] at e
    rcases bnd_inv e with ⟨c, e1, h1, rfl⟩ | ⟨t1, e1, h1, e⟩
    · exact ⟨env, T, _, s, h1, (fun _ _ z => nomatch z), qx⟩
    refine ⟨env, T, _, s, h1, fun t' e1' z v1 H1 s1 a1 => ?_, (fun _ _ z => nomatch z)⟩
    cases z
    rcases bnd_inv e with ⟨c, e2, h2, rfl⟩ | ⟨t2, e2, h2, e⟩
    · exact ⟨_, _, _, s1, h2, (fun _ _ z => nomatch z), fun c e z H' s' => by cases z; exact qx _ _ rfl H' s'.pop1⟩
    refine ⟨_, _, _, s1, h2, fun t' e2' z v2 H2 s2 a2 => ?_, (fun _ _ z => nomatch z)⟩
    cases z
    obtain ⟨x, hx, e⟩ := obnd_inv e
    obtain ⟨y, hy, e⟩ := obnd_inv e
    obtain ⟨z, hz, e⟩ := obnd_inv e
    cases e
    obtain ⟨_, _, r1⟩ := seenR (U := [(t2.d, v2)]) s2 a1 hx
    obtain ⟨_, _, r2⟩ := seenR (U := []) s2 a2 hy
    obtain ⟨b, rfl, k'⟩ := k H2 v1 v2 x y z _ _ _ _ (fun x H' => ∃ k, x = .bl k ∧ Q k H') r1 r2 hz
    obtain ⟨b', hb', kq⟩ := q _ _ rfl
    cases hb'
    exact k' ⟨b, rfl, kq _ s2.pop1.pop1⟩

theorem ck_lt : CmpOk X H0 P0 (opCmp C.L .Lt) (rI0 fun i j => .bl (decide (i < j))) := fun H v1 v2 x y z f1 s1 f2 s2 Q r1 r2 hz => by
  cases r1 <;> cases r2 <;> first | (simp [opCmp] at hz; done) | skip
  simp only [opCmp, Option.some.injEq] at hz
  subst hz
  exact ⟨_, rfl, fun q => ⟨_, _, rfl, rfl, q⟩⟩
theorem ck_le : CmpOk X H0 P0 (opCmp C.L .LtE) (rI0 fun i j => .bl (decide (i ≤ j))) := fun H v1 v2 x y z f1 s1 f2 s2 Q r1 r2 hz => by
  cases r1 <;> cases r2 <;> first | (simp [opCmp] at hz; done) | skip
  simp only [opCmp, Option.some.injEq] at hz
  subst hz
  exact ⟨_, rfl, fun q => ⟨_, _, rfl, rfl, q⟩⟩
theorem ck_gt : CmpOk X H0 P0 (opCmp C.L .Gt) (rI0 fun i j => .bl (decide (j < i))) := fun H v1 v2 x y z f1 s1 f2 s2 Q r1 r2 hz => by
  cases r1 <;> cases r2 <;> first | (simp [opCmp] at hz; done) | skip
  simp only [opCmp, Option.some.injEq] at hz
  subst hz
  exact ⟨_, rfl, fun q => ⟨_, _, rfl, rfl, q⟩⟩
theorem ck_ge : CmpOk X H0 P0 (opCmp C.L .GtE) (rI0 fun i j => .bl (decide (j ≤ i))) := fun H v1 v2 x y z f1 s1 f2 s2 Q r1 r2 hz => by
  cases r1 <;> cases r2 <;> first | (simp [opCmp] at hz; done) | skip
  simp only [opCmp, Option.some.injEq] at hz
  subst hz
  exact ⟨_, rfl, fun q => ⟨_, _, rfl, rfl, q⟩⟩
theorem ck_eq (ok : XOk C X W) : CmpOk X H0 P0 (opCmp C.L .Eq) (fun x y H Q => rEqD X.K x y H Q ∨ rEqDS x y H Q) := fun H v1 v2 x y z f1 s1 f2 s2 Q r1 r2 hz => by
  by_cases hdd : x = .dct ∧ ∃ t, y = .str t
  · obtain ⟨rfl, t, rfl⟩ := hdd
    cases r1; cases r2
    cases hz
    exact ⟨_, rfl, fun q => .inr ⟨_, _, _, rfl, by assumption, rfl, q⟩⟩
  have hz' : (bif x.whole && y.whole && C.L.eq x && C.L.eq y then some (D.bl (eqD x y)) else none) = some z := by
    cases x <;> cases y <;> first | exact hz | (exact absurd ⟨rfl, _, rfl⟩ hdd)
  cases hc : x.whole && y.whole && C.L.eq x && C.L.eq y with
  | false => rw [hc] at hz'; cases hz'
  | true =>
    rw [hc] at hz'
    cases hz'
    obtain ⟨hc, h4⟩ := and2 hc
    obtain ⟨hc, h3⟩ := and2 hc
    obtain ⟨h1, h2⟩ := and2 hc
    exact ⟨_, rfl, fun q => .inl ⟨_, _, rep_dp r1 h1, rep_dp r2 h2, ok.eq _ h3, ok.eq _ h4, q⟩⟩
theorem ck_ne (ok : XOk C X W) : CmpOk X H0 P0 (opCmp C.L .NotEq) (fun x y H Q => rNeD X.K x y H Q ∨ rNeDS x y H Q) := fun H v1 v2 x y z f1 s1 f2 s2 Q r1 r2 hz => by
  by_cases hdd : x = .dct ∧ ∃ t, y = .str t
  · obtain ⟨rfl, t, rfl⟩ := hdd
    cases r1; cases r2
    cases hz
    exact ⟨_, rfl, fun q => .inr ⟨_, _, _, rfl, by assumption, rfl, q⟩⟩
  have hz' : (bif x.whole && y.whole && C.L.eq x && C.L.eq y then some (D.bl (!eqD x y)) else none) = some z := by
    cases x <;> cases y <;> first | exact hz | (exact absurd ⟨rfl, _, rfl⟩ hdd)
  cases hc : x.whole && y.whole && C.L.eq x && C.L.eq y with
  | false => rw [hc] at hz'; cases hz'
  | true =>
    rw [hc] at hz'
    cases hz'
    obtain ⟨hc, h4⟩ := and2 hc
    obtain ⟨hc, h3⟩ := and2 hc
    obtain ⟨h1, h2⟩ := and2 hc
    exact ⟨_, rfl, fun q => .inl ⟨_, _, rep_dp r1 h1, rep_dp r2 h2, ok.eq _ h3, ok.eq _ h4, q⟩⟩
theorem ck_is : CmpOk X H0 P0 (opCmp C.L .Is) (fun x y H Q => rIsB x y H Q ∨ rIsN x y H Q) := fun H v1 v2 x y z f1 s1 f2 s2 Q r1 r2 hz => by
  cases r1 <;> cases r2 <;> first | (simp [opCmp] at hz; done) | skip
  all_goals (simp only [opCmp, Option.some.injEq] at hz; subst hz)
  all_goals first
    | exact ⟨_, rfl, fun q => .inr ⟨rfl, q⟩⟩
    | exact ⟨_, rfl, fun q => .inl ⟨_, _, rfl, rfl, by rw [← Bool.beq_eq_decide_eq]; exact q⟩⟩
theorem ck_isnot : CmpOk X H0 P0 (opCmp C.L .IsNot) (fun x y H Q => rNotB x y H Q ∨ rNotN x y H Q) := fun H v1 v2 x y z f1 s1 f2 s2 Q r1 r2 hz => by
  cases r1 <;> cases r2 <;> first | (simp [opCmp] at hz; done) | skip
  all_goals (simp only [opCmp, Option.some.injEq] at hz; subst hz)
  all_goals first
    | exact ⟨_, rfl, fun q => .inr ⟨rfl, q⟩⟩
    | exact ⟨_, rfl, fun q => .inl ⟨_, _, rfl, rfl, by rw [← Bool.beq_eq_decide_eq]; exact q⟩⟩
end
end TV
namespace TV
open PySem PySem.Spec PyProof.Rows L2
section
variable {C : Ctx} {W : Wish} {X : Cx} {H0 : Hp} {P0 : Addr → Prop}

theorem SR.roll {K : PySem.W.Frag} {H : Hp} {env : Env} {σ : L2.St} {A T : List (D × V)} {p : D × V} (h : SR K H0 P0 env σ (A ++ p :: T) H) : SR K H0 P0 env σ (p :: (A ++ T)) H := by
  have h' : SR K H0 P0 env σ ((A ++ [p]) ++ T) H := by simpa using h
  have := SR.step (W' := p :: A) h' (Same.refl H) fun fa sa r n dj => by
    rw [List.map_append, List.map_append] at r
    obtain ⟨va, vb, f1, f2, s1, s2, e, rfl, rfl, r1, r2⟩ := Reps.split r
    obtain ⟨e1, e2⟩ := List.append_inj e (by rw [r1.length]; simp)
    subst e1 e2
    cases r2 with
    | cons r2 r3 =>
      cases r3
      rename_i f s
      rw [List.append_nil] at n dj
      have pm : (f1 ++ f).Perm (f ++ f1) := List.perm_append_comm
      refine ⟨f ++ f1, s ++ s1, .cons r2 r1, pm.nodup_iff.mp n, fun a z z2 => ?_, fun a z => .inl ?_, fun a z => .inl ?_⟩
      · refine dj a (pm.mem_iff.mpr z) ?_
        rw [List.append_nil]
        exact List.mem_append.mpr (List.mem_append.mp z2).symm
      · rw [List.append_nil]; exact pm.mem_iff.mpr z
      · rw [List.append_nil]; exact List.mem_append.mpr (List.mem_append.mp z).symm
  simpa using this
theorem sEs_nil : PA X [] (tEs C W X.K H0 P0 .nil) := pa_nil.imp fun σ H Q ⟨env, T, r, s, e, q, qx⟩ => by
  rw [evEs] at e
  cases e
  exact q _ _ rfl [] H s trivial
def notStar : Expr → Bool
  | .Starred _ _ => false
  | _ => true
theorem star_cons {e : Expr} {es : List Expr} {env : PySem.Env} (h : notStar e = true) : starEach (e :: es) env = (false, eval e env) :: starEach es env := by
  cases e <;> first | rfl | (simp [notStar] at h)
theorem star_all {env : PySem.Env} {pos : Pos} : ∀ {es : List Expr}, es.all notStar = true → (backTo pos (starEach es env)).any (·.1) = false
  | [], _ => rfl
  | e :: es, h => by
    rw [List.all_cons] at h
    rw [star_cons (and2 h).1]
    exact star_all (pos := pos) (and2 h).2
theorem sEs_cons {e : Expr} {es : List Expr} {ee : E} {ees : Es} (hn : notStar e = true) (ha : PE X e (tE C W X.K H0 P0 ee)) (hr : PA X es (tEs C W X.K H0 P0 ees)) : PA X (e :: es) (tEs C W X.K H0 P0 (.cons ee ees)) := (pa_cons ha hr (star_cons hn)).imp fun σ H Q ⟨env, T, r, s, e, q, qx⟩ => by
  rw [evEs] at e
  rcases bnd_inv e with ⟨c, e1, h1, rfl⟩ | ⟨t1, e1, h1, e⟩
  · exact ⟨env, T, _, s, h1, (fun _ _ z => nomatch z), fun c e z H' s' => by cases z; exact qx _ _ rfl H' s'⟩
  refine ⟨env, T, _, s, h1, fun t' e1' z v1 H1 s1 a1 => ?_, (fun _ _ z => nomatch z)⟩
  cases z
  rcases bnd_inv e with ⟨c, e2, h2, rfl⟩ | ⟨ts, e2, h2, e⟩
  · exact ⟨_, _, _, s1, h2, (fun _ _ z => nomatch z), fun c e z H' s' => by cases z; exact qx _ _ rfl H' s'.pop1⟩
  cases e
  refine ⟨_, _, _, s1, h2, fun t' e2' z vs H2 s2 a2 => ?_, (fun _ _ z => nomatch z)⟩
  cases z
  exact q _ _ rfl (v1 :: vs) H2 s2.roll ⟨a1, a2⟩

section
variable {K : PySem.W.Frag} {H : Hp} {env : Env} {σ : L2.St} {T : List (D × V)}
theorem ats_len {σ : L2.St} : ∀ {ts : List Tm} {vs : List V}, ats σ ts vs → ts.length = vs.length
  | [], [], _ => rfl
  | t :: ts, v :: vs, h => by rw [List.length_cons, List.length_cons, ats_len h.2]
  | [], _ :: _, h => h.elim
  | _ :: _, [], h => h.elim
/-- .. each of them -/
theorem seenL : ∀ {ts : List Tm} {vs : List V} {T : List (D × V)} {ds : List D}, SR K H0 P0 env σ (tmz ts vs ++ T) H → ats σ ts vs → resL env ts = some ds → ∃ f s, Reps K H vs ds f s
  | [], [], T, ds, h, a, e => by cases e; exact ⟨_, _, .nil⟩
  | t :: ts, v :: vs, T, ds, h, a, e => by
    rw [resL] at e
    cases hd : res env t with
    | none => rw [hd] at e; cases e
    | some d =>
      rw [hd] at e
      cases hr : resL env ts with
      | none => rw [hr] at e; cases e
      | some es =>
        rw [hr] at e
        cases e
        obtain ⟨f1, s1, r1⟩ := seenR (U := []) (T := tmz ts vs ++ T) h a.1 hd
        obtain ⟨f2, s2, r2⟩ := seenL (T := T) (SR.pop1 h) a.2 hr
        exact ⟨_, _, .cons r1 r2⟩
  | [], _ :: _, _, _, _, a, _ => a.elim
  | _ :: _, [], _, _, _, a, _ => a.elim
/-- plain values wait: what they are -/
theorem tmz_vals : ∀ {ts : List Tm} {vs : List V} {ds : List D}, ats σ ts vs → valsL ts = some ds → (tmz ts vs).map (·.1) = ds ∧ (tmz ts vs).map (·.2) = vs
  | [], [], ds, a, e => by cases e; exact ⟨rfl, rfl⟩
  | .val d :: ts, v :: vs, ds, a, e => by
    rw [valsL] at e
    cases hr : valsL ts with
    | none => rw [hr] at e; cases e
    | some es =>
      rw [hr] at e
      cases e
      obtain ⟨h1, h2⟩ := tmz_vals a.2 hr
      exact ⟨by rw [tmz, List.map_cons, h1]; rfl, by rw [tmz, List.map_cons, h2]⟩
  | .bor _ :: ts, v :: vs, ds, a, e => by rw [valsL] at e; cases e
  | [], _ :: _, _, a, _ => a.elim
  | _ :: _, [], _, a, _ => a.elim
end

theorem sE_tup {es : List Expr} {x1 : Nat} {pos : Pos} {ees : Es} (ha : PA X es (tEs C W X.K H0 P0 ees)) (hl : es.length ≤ 1000) (hes : ∀ env ts env', evEs C ees env = some (.ok ts env') → ts.length = es.length) : PE X (.Tuple es x1 pos) (tE C W X.K H0 P0 (.tup ees)) := (pe_tup ha).imp fun σ H Q ⟨env, T, r, s, e, q, qx⟩ => by
  rw [evE] at e
  rcases bnd_inv e with ⟨c, e1, h1, rfl⟩ | ⟨ts, e1, h1, e⟩
  · exact ⟨env, T, _, s, h1, (fun _ _ z => nomatch z), fun c e z H' s' => by cases z; exact qx _ _ rfl H' s'⟩
  refine ⟨env, T, _, s, h1, fun t' e1' z vs H1 s1 a1 => ?_, (fun _ _ z => nomatch z)⟩
  cases z
  obtain ⟨ds, hd, e⟩ := obnd_inv e
  cases e
  obtain ⟨k1, k2⟩ := tmz_vals a1 hd
  refine ⟨by rw [← ats_len a1, hes _ _ _ h1]; exact Nat.le_trans hl (by decide), fun p hp => ?_⟩
  have s2 := SR.newT s1 hp
  rw [k1, k2] at s2
  exact q _ _ rfl _ _ s2 trivial
theorem sE_lst {es : List Expr} {pos : Pos} {ees : Es} (ha : PA X es (tEs C W X.K H0 P0 ees)) (hl : es.length ≤ 1000) (hes : ∀ env ts env', evEs C ees env = some (.ok ts env') → ts.length = es.length) : PE X (.List es pos) (tE C W X.K H0 P0 (.lst ees)) := (pe_lst ha).imp fun σ H Q ⟨env, T, r, s, e, q, qx⟩ => by
  rw [evE] at e
  rcases bnd_inv e with ⟨c, e1, h1, rfl⟩ | ⟨ts, e1, h1, e⟩
  · exact ⟨env, T, _, s, h1, (fun _ _ z => nomatch z), fun c e z H' s' => by cases z; exact qx _ _ rfl H' s'⟩
  refine ⟨env, T, _, s, h1, fun t' e1' z vs H1 s1 a1 => ?_, (fun _ _ z => nomatch z)⟩
  cases z
  obtain ⟨ds, hd, e⟩ := obnd_inv e
  cases e
  obtain ⟨k1, k2⟩ := tmz_vals a1 hd
  refine ⟨by rw [← ats_len a1, hes _ _ _ h1]; exact Nat.le_trans hl (by decide), fun p hp => ?_⟩
  have s2 := SR.newL (vs := vs) (ds := ds) s1 hp (fun fa sa r n dj => by
    rw [k1, k2] at r
    exact ⟨fa, sa, r, n, fun _ z => z, fun _ z => z⟩)
  exact q _ _ rfl _ _ s2 trivial

theorem SR.openTop {K : PySem.W.Frag} {H : Hp} {env : Env} {σ : L2.St} {T : List (D × V)} {d : D} {v : V} (h : SR K H0 P0 env σ ((d, v) :: T) H) :
    ∃ f s, Rep K H v d f s ∧ f.Nodup ∧ (∀ a ∈ f, a ∉ s) ∧ ∀ (z : D) (w : V) (f' s' : List Addr), Rep K H w z f' s' → f'.Nodup → (∀ a ∈ f', a ∈ f) → (∀ a ∈ s', a ∈ s) → SR K H0 P0 env σ ((z, w) :: T) H := by
  obtain ⟨fp, sp, r, n, dj, p, sm⟩ := id h.sr
  cases r with
  | cons r1 r2 =>
    rename_i f s fp sp
    have n' := List.nodup_append.mp n
    refine ⟨f, s, r1, n'.1, fun a z z2 => (dj a (List.mem_append_left _ z)).1 (List.mem_append_left _ z2), fun z w f' s' r' nf kf ks => ⟨h.len, h.has, ?_⟩⟩
    have inF : ∀ a, a ∈ f' ++ fp → a ∈ f ++ fp := fun a z => (List.mem_append.mp z).elim (fun z => List.mem_append_left _ (kf a z)) (List.mem_append_right _)
    have inS : ∀ a, a ∈ s' ++ sp → a ∈ s ++ sp := fun a z => (List.mem_append.mp z).elim (fun z => List.mem_append_left _ (ks a z)) (List.mem_append_right _)
    exact ⟨f' ++ fp, s' ++ sp, .cons r' r2, List.nodup_append.mpr ⟨nf, n'.2.1, fun a z b z2 e => n'.2.2 a (kf a z) b z2 e⟩, fun a z => ⟨fun z2 => (dj a (inF a z)).1 (inS a z2), (dj a (inF a z)).2⟩, fun a z => p a (inS a z), sm⟩
theorem reps_at {K : PySem.W.Frag} {H : Hp} {us : List V} {ds : List D} {f s : List Addr} {i : Int} {z : D} (r : Reps K H us ds f s) (n : f.Nodup) (h : atI ds i = some z) : ∃ w f' s', atI us i = some w ∧ Rep K H w z f' s' ∧ f'.Nodup ∧ (∀ a ∈ f', a ∈ f) ∧ ∀ a ∈ s', a ∈ s := by
  unfold atI at h ⊢
  rw [r.length]
  cases hx : ixN ds.length i with
  | none => rw [hx] at h; cases h
  | some j =>
    rw [hx] at h
    have h' : ds[j]? = some z := h
    obtain ⟨w, f', s', fr, sr, e1, q, p1, p2⟩ := Reps.get r h'
    exact ⟨w, f', s', e1, q, (List.nodup_append.mp (p1.nodup_iff.mp n)).1, fun a z => p1.mem_iff.mpr (List.mem_append_left _ z), fun a z => p2.mem_iff.mpr (List.mem_append_left _ z)⟩
/-- a list or a tuple: where its things stand -/
theorem rep_seq {K : PySem.W.Frag} {H : Hp} {v : V} {x : D} {f s : List Addr} (r : Rep K H v x f s) (n : f.Nodup) (hs : x.isSeq = true) : ∃ p us f' s', v = .ref p ∧ (SqL K H p us ∨ SqT K H p us) ∧ Reps K H us x.kids f' s' ∧ f'.Nodup ∧ (∀ a ∈ f', a ∈ f) ∧ ∀ a ∈ s', a ∈ s := by
  cases r with
  | tup h r => exact ⟨_, _, _, _, rfl, .inr h, r, n, fun _ z => z, fun _ z => z⟩
  | sh h r => exact ⟨_, _, _, _, rfl, .inl (SqL.of h), r, n, fun _ z => z, fun _ z => List.mem_cons_of_mem _ z⟩
  | fz h r => exact ⟨_, _, _, _, rfl, .inl h.sq, r, n, fun _ z => z, fun _ z => z⟩
  | ow h r => exact ⟨_, _, _, _, rfl, .inl (SqL.of h), r, (List.nodup_cons.mp n).2, fun _ z => List.mem_cons_of_mem _ z, fun _ z => z⟩
  | _ => simp [D.isSeq] at hs
def pick (t : Tm) (e : D) : Option D := match t with
  | .val _ => if e.whole then some e else none
  | .bor _ => if e.noOw then some e else none
theorem ixD_seq {L : Lim} {t : Tm} {x k z : D} (h : ixD L t x k = some z) (hs : x.isSeq = true) : ∃ i e, k = .int i ∧ atI x.kids i = some e ∧ pick t e = some z := by
  cases x <;> first | (simp [D.isSeq] at hs; done) | skip
  all_goals
    cases k <;> first | (simp [ixD] at h; done) | skip
    next i =>
    simp only [ixD] at h
    cases he : atI _ i with
    | none => rw [he] at h; cases h
    | some e => rw [he] at h; exact ⟨i, e, rfl, he, h⟩
theorem ix_get {K : PySem.W.Frag} {H : Hp} {env : Env} {σ : L2.St} {T : List (D × V)} {t : Tm} {v : V} {x e z : D} {i : Int} (h : SR K H0 P0 env σ ((t.d, v) :: T) H) (a : t.at σ v) (hx : raw env t = some x) (hs : x.isSeq = true) (he : atI x.kids i = some e) (hp : pick t e = some z) :
    ∃ p us w, v = .ref p ∧ (SqL K H p us ∨ SqT K H p us) ∧ atI us i = some w ∧ SR K H0 P0 env σ ((z, w) :: T) H := by
  cases t with
  | val d =>
    have hd : d = x := Option.some.inj hx
    subst hd
    unfold pick at hp
    dsimp only at hp
    split at hp
    · cases hp
      obtain ⟨f, s, r, n, dj, k⟩ := h.openTop
      obtain ⟨p, us, f', s', rfl, hsq, rs, n', k1, k2⟩ := rep_seq r n hs
      obtain ⟨w, f2, s2, hw, r2, n2, k3, k4⟩ := reps_at rs n' he
      exact ⟨p, us, w, rfl, hsq, hw, k _ _ _ _ r2 n2 (fun a z => k1 a (k3 a z)) (fun a z => k2 a (k4 a z))⟩
    · cases hp
  | bor j =>
    unfold pick at hp
    dsimp only at hp
    split at hp
    · next hn =>
      cases hp
      have a' : σ[j]? = some (some v) := a
      obtain ⟨ws, h2, hl, q⟩ := SR.alsoSlot (U := [e]) (P := fun ws => ∃ p us w, ws = [w] ∧ v = .ref p ∧ (SqL K H p us ∨ SqT K H p us) ∧ atI us i = some w) h.pop1 (show env[j]? = some x from hx) (seq_hole hs) (fun v' f s hv r => by
        rw [a'] at hv
        cases hv
        have : ∃ p us f' s', v = .ref p ∧ (SqL K H p us ∨ SqT K H p us) ∧ Reps K H us x.kids f' s' ∧ ∀ a ∈ s', a ∈ s := by
          cases r with
          | tup hh rr => exact ⟨_, _, _, _, rfl, .inr hh, rr, fun _ z => z⟩
          | sh hh rr => exact ⟨_, _, _, _, rfl, .inl (SqL.of hh), rr, fun _ z => List.mem_cons_of_mem _ z⟩
          | fz hh rr => exact ⟨_, _, _, _, rfl, .inl hh.sq, rr, fun _ z => z⟩
          | ow hh rr => exact ⟨_, _, _, _, rfl, .inl (SqL.of hh), rr, fun _ z => z⟩
          | _ => simp [D.isSeq] at hs
        obtain ⟨p, us, f', s', e1, hsq, rs, k1⟩ := this
        have : ∃ w f2 s2, atI us i = some w ∧ Rep K H w e f2 s2 ∧ ∀ a ∈ s2, a ∈ s' := by
          have he' := he
          unfold atI at he' ⊢
          rw [rs.length]
          cases hx : ixN x.kids.length i with
          | none => rw [hx] at he'; cases he'
          | some j =>
            rw [hx] at he'
            obtain ⟨w, f', s', fr, sr, e1, q, p1, p2⟩ := Reps.get rs (show x.kids[j]? = some e from he')
            exact ⟨w, f', s', e1, q, fun a z => p2.mem_iff.mpr (List.mem_append_left _ z)⟩
        obtain ⟨w, f2, s2, hw, r2, k2⟩ := this
        have := Rep.noOw r2 hn
        subst this
        exact ⟨[w], s2, by simpa using (Reps.cons r2 .nil), fun a z => k1 a (k2 a z), p, us, w, rfl, e1, hsq, hw⟩)
      obtain ⟨p, us, w, rfl, e1, hsq, hw⟩ := q
      exact ⟨p, us, w, e1, hsq, hw, h2⟩
    · cases hp
theorem sE_ix (ok : XOk C X W) {a b : Expr} {pos : Pos} {ea eb : E} (ha : PE X a (tE C W X.K H0 P0 ea)) (hb : PE X b (tE C W X.K H0 P0 eb)) (hs : PlainIx b) : PE X (.Subscript a b pos) (tE C W X.K H0 P0 (.ix ea eb)) :=
  (pe_ix ix_seq ha hb hs).imp fun σ H Q ⟨env, T, r, s, e, q, qx⟩ => by
  rw [evE] at e
  rcases bnd_inv e with ⟨c, e1, h1, rfl⟩ | ⟨t1, e1, h1, e⟩
  · exact ⟨env, T, _, s, h1, (fun _ _ z => nomatch z), qx⟩
  refine ⟨env, T, _, s, h1, fun t' e1' z v1 H1 s1 a1 => ?_, (fun _ _ z => nomatch z)⟩
  cases z
  rcases bnd_inv e with ⟨c, e2, h2, rfl⟩ | ⟨t2, e2, h2, e⟩
  · exact ⟨_, _, _, s1, h2, (fun _ _ z => nomatch z), fun c e z H' s' => by cases z; exact qx _ _ rfl H' s'.pop1⟩
  refine ⟨_, _, _, s1, h2, fun t' e2' z v2 H2 s2 a2 => ?_, (fun _ _ z => nomatch z)⟩
  cases z
  obtain ⟨x, hx, e⟩ := obnd_inv e
  obtain ⟨k, hk, e⟩ := obnd_inv e
  obtain ⟨z, hz, e⟩ := obnd_inv e
  cases e
  cases hsq : x.isSeq with
  | true =>
    obtain ⟨i, e, rfl, he, hp⟩ := ixD_seq hz hsq
    obtain ⟨_, _, r2⟩ := seen (U := []) s2 a2 hk rfl
    cases r2
    obtain ⟨p, us, w, rfl, hq, hw, s3⟩ := ix_get s2.pop1 a1 hx hsq he hp
    rcases hq with hq | hq
    · exact .inl ⟨p, us, i, w, rfl, rfl, hq, hw, q _ _ rfl _ _ s3 trivial⟩
    · exact .inr (.inl ⟨p, us, i, w, rfl, rfl, hq, hw, q _ _ rfl _ _ s3 trivial⟩)
  | false =>
    cases x <;> first | (simp [D.isSeq] at hsq; done) | (simp [ixD] at hz; done) | skip
    rename_i xx e'
    cases k <;> first | (simp [ixD] at hz; done) | skip
    next i =>
    simp only [ixD] at hz
    cases hl : C.L.len xx.length with
    | false => rw [hl] at hz; cases hz
    | true =>
      rw [hl] at hz
      cases hc : atI xx.cps.toList i with
      | none => rw [hc] at hz; cases hz
      | some c =>
        rw [hc] at hz
        cases hz
        obtain ⟨_, _, r1⟩ := seen (U := [(t2.d, v2)]) s2 a1 hx rfl
        obtain ⟨_, _, r2⟩ := seen (U := []) s2 a2 hk rfl
        cases r1
        cases r2
        exact .inr (.inr ⟨xx, i, c, rfl, rfl, Nat.le_of_lt (ok.len _ hl), hc, q _ _ rfl _ _ (s2.pop1.pop1.put (.str _)) trivial⟩)
end
end TV
namespace TV
open PySem PySem.Spec PyProof.Rows L2
section
variable {C : Ctx} {W : Wish} {X : Cx} {H0 : Hp} {P0 : Addr → Prop}

theorem sO_no : PO X none (tO C W X.K H0 P0 .no) := po_none.imp fun σ H Q ⟨env, T, r, s, e, q, qx⟩ => by
  rw [evEo] at e
  cases e
  exact q _ _ rfl H s
theorem sO_so {a : Expr} {ea : E} (ha : PE X a (tE C W X.K H0 P0 ea)) : PO X (some a) (tO C W X.K H0 P0 (.so ea)) := (po_some ha).imp fun σ H Q ⟨env, T, r, s, e, q, qx⟩ => by
  rw [evEo] at e
  rcases bnd_inv e with ⟨c, e1, h1, rfl⟩ | ⟨t1, e1, h1, e⟩
  · exact ⟨env, T, _, s, h1, (fun _ _ z => nomatch z), fun c e z H' s' => by cases z; exact qx _ _ rfl H' s'⟩
  refine ⟨env, T, _, s, h1, fun t' e1' z v1 H1 s1 a1 => ?_, (fun _ _ z => nomatch z)⟩
  cases z
  split at e
  · next hx =>
    cases e
    obtain ⟨_, _, r1⟩ := seen (U := []) s1 a1 hx rfl
    cases r1
    exact ⟨_, rfl, q _ _ rfl _ s1.pop1⟩
  · cases e
theorem Reps.drop {K : PySem.W.Frag} {H : Hp} : ∀ (n : Nat) {us : List V} {ds : List D} {s : List Addr}, Reps K H us ds [] s → ∃ s', Reps K H (us.drop n) (ds.drop n) [] s' ∧ ∀ a ∈ s', a ∈ s
  | 0, us, ds, s, r => ⟨s, r, fun _ z => z⟩
  | n + 1, [], [], s, r => ⟨[], .nil, (fun _ z => nomatch z)⟩
  | n + 1, v :: us, d :: ds, s, r => by
    generalize hf : ([] : List Addr) = fp at r
    cases r with
    | cons h r =>
      rename_i f s1 fp s2
      obtain ⟨e1, e2⟩ := List.append_eq_nil_iff.mp hf.symm
      subst e1 e2
      obtain ⟨s', r', k⟩ := Reps.drop n r
      exact ⟨s', r', fun a z => List.mem_append_right _ (k a z)⟩
  | n + 1, [], d :: ds, s, r => by cases r
  | n + 1, v :: us, [], s, r => by cases r
theorem Reps.take {K : PySem.W.Frag} {H : Hp} : ∀ (n : Nat) {us : List V} {ds : List D} {s : List Addr}, Reps K H us ds [] s → ∃ s', Reps K H (us.take n) (ds.take n) [] s' ∧ ∀ a ∈ s', a ∈ s
  | 0, us, ds, s, r => ⟨[], .nil, (fun _ z => nomatch z)⟩
  | n + 1, [], [], s, r => ⟨[], .nil, (fun _ z => nomatch z)⟩
  | n + 1, v :: us, d :: ds, s, r => by
    generalize hf : ([] : List Addr) = fp at r
    cases r with
    | cons h r =>
      rename_i f s1 fp s2
      obtain ⟨e1, e2⟩ := List.append_eq_nil_iff.mp hf.symm
      subst e1 e2
      obtain ⟨s', r', k⟩ := Reps.take n r
      exact ⟨s1 ++ s', .cons (f := []) h r', fun a z => (List.mem_append.mp z).elim (List.mem_append_left _) (fun z => List.mem_append_right _ (k a z))⟩
  | n + 1, [], d :: ds, s, r => by cases r
  | n + 1, v :: us, [], s, r => by cases r
theorem Reps.cut {K : PySem.W.Frag} {H : Hp} {us : List V} {ds : List D} {s : List Addr} (r : Reps K H us ds [] s) (lo hi : Option Int) : ∃ s', Reps K H (cutV us lo hi) (cutD ds lo hi) [] s' ∧ ∀ a ∈ s', a ∈ s := by
  unfold cutV cutD
  rw [r.length]
  obtain ⟨s1, r1, k1⟩ := Reps.drop (HT.sIx ds.length 0 lo) r
  obtain ⟨s2, r2, k2⟩ := Reps.take (HT.sIx ds.length ds.length hi - HT.sIx ds.length 0 lo) r1
  exact ⟨s2, r2, fun a z => k1 a (k2 a z)⟩
theorem kid_sq {K : PySem.W.Frag} {H : Hp} {k : LK} {ds : List D} {v : V} {us : List V} (h : Kid K H (.lst k ds) v us) : ∃ a, v = .ref a ∧ SqL K H a us := by
  obtain ⟨a, rfl, h⟩ := h
  rcases h with ⟨_, e, h⟩ | ⟨_, e, h⟩ | ⟨_, e, h⟩ | ⟨_, e, h⟩
  · cases e
  · exact ⟨a, rfl, SqL.of h⟩
  · exact ⟨a, rfl, SqL.of h⟩
  · exact ⟨a, rfl, h.sq⟩
theorem sE_sl (ok : XOk C X W) {a : Expr} {lo hi : Option Expr} {pos p2 : Pos} {ea : E} {el eh : Eo} (ha : PE X a (tE C W X.K H0 P0 ea)) (hl : PO X lo (tO C W X.K H0 P0 el)) (hh : PO X hi (tO C W X.K H0 P0 eh)) :
    PE X (.Subscript a (.Slice lo hi none p2) pos) (tE C W X.K H0 P0 (.sl ea el eh)) := (pe_slice (sl_list.or sl_str) ha hl hh).imp fun σ H Q ⟨env, T, r, s, e, q, qx⟩ => by
  rw [evE] at e
  rcases bnd_inv e with ⟨c, e1, h1, rfl⟩ | ⟨t1, e1, h1, e⟩
  · exact ⟨env, T, _, s, h1, (fun _ _ z => nomatch z), qx⟩
  refine ⟨env, T, _, s, h1, fun t' e1' z v1 H1 s1 a1 => ?_, (fun _ _ z => nomatch z)⟩
  cases z
  rcases bnd_inv e with ⟨c, e2, h2, rfl⟩ | ⟨l, e2, h2, e⟩
  · exact ⟨_, _, _, s1, h2, (fun _ _ z => nomatch z), fun c e z H' s' => by cases z; exact qx _ _ rfl H' s'.pop1⟩
  refine ⟨_, _, _, s1, h2, fun t' e2' z H2 s2 => ?_, (fun _ _ z => nomatch z)⟩
  cases z
  rcases bnd_inv e with ⟨c, e3, h3, rfl⟩ | ⟨h, e3, h3, e⟩
  · exact ⟨_, _, _, s2, h3, (fun _ _ z => nomatch z), fun c e z H' s' => by cases z; exact qx _ _ rfl H' s'.pop1⟩
  refine ⟨_, _, _, s2, h3, fun t' e3' z H3 s3 => ?_, (fun _ _ z => nomatch z)⟩
  cases z
  obtain ⟨x, hx, e⟩ := obnd_inv e
  obtain ⟨z, hz, e⟩ := obnd_inv e
  cases e
  cases x with
  | hole => simp [slD] at hz
  | non => simp [slD] at hz
  | dct => simp [slD] at hz
  | bl _ => simp [slD] at hz
  | int _ => simp [slD] at hz
  | tup _ => simp [slD] at hz
  | str xx =>
    simp only [slD] at hz
    cases hc : C.L.len xx.length with
    | false => rw [hc] at hz; cases hz
    | true =>
      rw [hc] at hz
      cases hz
      obtain ⟨_, _, r1⟩ := seen (U := []) s3 a1 hx rfl
      cases r1
      exact .inr ⟨_, rfl, Nat.le_of_lt (ok.len _ hc), q _ _ rfl _ _ (s3.pop1.put (.str _)) trivial⟩
  | lst kk ds =>
    simp only [slD] at hz
    split at hz
    · next hn =>
      cases hz
      obtain ⟨us, s4, l4, kd⟩ := SR.kids (j := 0) s3 rfl a1 hx rfl hn
      obtain ⟨p, rfl, hq⟩ := kid_sq kd
      refine .inl ⟨p, us, rfl, hq, fun p2 hp => q _ _ rfl _ _ ?_ trivial⟩
      have s5 := SR.newL (vs := cutV us l h) (ds := cutD ds l h) s4 hp (fun fa sa r n dj => by
        rw [zip_fst l4, zip_snd l4] at r
        have z1 := Reps.noOw r hn
        subst z1
        obtain ⟨s', r', k⟩ := Reps.cut r l h
        exact ⟨[], s', r', .nil, (fun _ z => nomatch z), k⟩)
      exact s5.drop1
    · cases hz

theorem SR.openFront {K : PySem.W.Frag} {H : Hp} {env : Env} {σ : L2.St} {A T : List (D × V)} (h : SR K H0 P0 env σ (A ++ T) H) : ∃ fa sa, Reps K H (A.map (·.2)) (A.map (·.1)) fa sa ∧ fa.Nodup ∧ (∀ a ∈ fa, a ∉ sa) ∧
    ∀ (H' : Hp) (B : List (D × V)) (fa' sa' : List Addr), Same H H' → Reps K H' (B.map (·.2)) (B.map (·.1)) fa' sa' → fa'.Nodup → (∀ a ∈ fa', a ∉ sa') → (∀ a ∈ fa', a ∈ fa ∨ H a = none) → (∀ a ∈ sa', a ∈ sa ∨ a ∈ fa ∨ H a = none) → SR K H0 P0 env σ (B ++ T) H' := by
  obtain ⟨fp, sp, r, n, d, p, s⟩ := h.sr
  rw [List.map_append, List.map_append, List.append_assoc, List.append_assoc] at r
  obtain ⟨va, vb, fa, fb, sa, sb, ev, rfl, rfl, r1, r2⟩ := Reps.split r
  obtain ⟨e1, e2⟩ := List.append_inj ev (by rw [r1.length]; simp)
  subst e1 e2
  have na := List.nodup_append.mp n
  have t2 := r2.there
  refine ⟨fa, sa, r1, na.1, fun a z1 z2 => (d a (List.mem_append_left _ z1)).1 (List.mem_append_left _ z2), fun H' B fa' sa' sm q1 q2 q3 q4 q5 => ⟨h.len, h.has, ?_⟩⟩
  have old : ∀ a, H a = none → a ∉ fb ∧ a ∉ sb := fun a hn => ⟨fun z => (by obtain ⟨_, e⟩ := t2.1 a z; rw [hn] at e; cases e), fun z => (by obtain ⟨_, e⟩ := t2.2 a z; rw [hn] at e; cases e)⟩
  have offb : ∀ a ∈ fa', a ∉ fb ∧ a ∉ sb := fun a z => by
    rcases q4 a z with z | z
    · exact ⟨fun z2 => (na.2.2 a z a z2) rfl, fun z2 => (d a (List.mem_append_left _ z)).1 (List.mem_append_right _ z2)⟩
    · exact old a z
  have offs : ∀ a ∈ sa', a ∉ fb := fun a z z2 => by
    rcases q5 a z with z | z | z
    · exact (d a (List.mem_append_right _ z2)).1 (List.mem_append_left _ z)
    · exact (na.2.2 a z a z2) rfl
    · exact (old a z).1 z2
  rw [List.map_append, List.map_append, List.append_assoc, List.append_assoc]
  refine ⟨fa' ++ fb, sa' ++ sb, Reps.append q1 (Reps.same sm r2), ?_, ?_, ?_, s.trans sm⟩
  · exact List.nodup_append.mpr ⟨q2, na.2.1, fun a z b z2 e => (offb a z).1 (e ▸ z2)⟩
  · intro a z
    rcases List.mem_append.mp z with z | z
    · refine ⟨fun z2 => ?_, ?_⟩
      · rcases List.mem_append.mp z2 with z2 | z2
        · exact q3 a z z2
        · exact (offb a z).2 z2
      · rcases q4 a z with z | z
        · exact (d a (List.mem_append_left _ z)).2
        · exact s.free z
    · refine ⟨fun z2 => ?_, (d a (List.mem_append_right _ z)).2⟩
      rcases List.mem_append.mp z2 with z2 | z2
      · exact offs a z2 z
      · exact (d a (List.mem_append_right _ z)).1 (List.mem_append_right _ z2)
  · intro a z
    rcases List.mem_append.mp z with z | z
    · rcases q5 a z with z | z | z
      · exact p a (List.mem_append_left _ z)
      · exact .inr (d a (List.mem_append_left _ z)).2
      · exact .inr (s.free z)
    · exact p a (List.mem_append_right _ z)
theorem resL_vals {env : Env} : ∀ {ts : List Tm} {ds : List D}, resL env ts = some ds → anyBor ts = false → valsL ts = some ds
  | [], ds, h, _ => by cases h; rfl
  | .val d :: ts, ds, h, a => by
    rw [resL] at h
    rw [anyBor] at a
    cases hr : resL env ts with
    | none => rw [hr] at h; cases h
    | some es =>
      rw [hr] at h
      cases h
      rw [valsL, resL_vals hr a]
      rfl
  | .bor _ :: ts, ds, h, a => by rw [anyBor] at a; cases a
theorem resL_len {env : Env} : ∀ {ts : List Tm} {ds : List D}, resL env ts = some ds → ds.length = ts.length
  | [], ds, h => by cases h; rfl
  | t :: ts, ds, h => by
    rw [resL] at h
    cases hd : res env t with
    | none => rw [hd] at h; cases h
    | some d =>
      rw [hd] at h
      cases hr : resL env ts with
      | none => rw [hr] at h; cases h
      | some es =>
        rw [hr] at h
        cases h
        rw [List.length_cons, List.length_cons, resL_len hr]
theorem shareL_len (ds : List D) : (shareL ds).length = ds.length := by rw [shareL_map, List.length_map]
theorem sE_call (ok : XOk C X W) {f : Str} {a : Expr} {es : List Expr} {p pos : Pos} {ees : Es} {n : Nat} (hd : C.isDef f n = true) (hn : (a :: es).length = n) (ha : PA X (a :: es) (tEs C W X.K H0 P0 ees)) (hst : (a :: es).all notStar = true) (hg : Gl X f) (hdb : (f == ("__debug__" : Str)) = false)
    (hes : ∀ env ts env', evEs C ees env = some (.ok ts env') → ts.length = (a :: es).length) : PE X (.Call (.Name f p) (a :: es) [] pos) (tE C W X.K H0 P0 (.call f ees)) := by
  obtain ⟨k, fa, fd, ps, hr, hm, hk, hb, F⟩ := ok.call f n hd
  have st := hst
  rw [List.all_cons] at st
  refine (pe_callS (E := fun σ => WE (WC X.mg W) σ) F hr hg hm hk hb (fun σ => passAt ok.tk σ) ha hdb (star_cons (and2 st).1) (star_all (and2 st).2)).imp fun σ H Q ⟨env, T, r, s, e, q, qx⟩ => ?_
  rw [evE] at e
  rcases bnd_inv e with ⟨c, e1, h1, rfl⟩ | ⟨ts, e1, h1, e⟩
  · exact ⟨env, T, _, s, h1, (fun _ _ z => nomatch z), fun c e z H' s' => by cases z; exact qx _ _ rfl H' s'⟩
  refine ⟨env, T, _, s, h1, fun t' e1' z vs H1 s1 a1 => ?_, (fun _ _ z => nomatch z)⟩
  cases z
  obtain ⟨ds, hds, e⟩ := obnd_inv e
  have len : (shareL ds).length = n := by rw [shareL_len, resL_len hds, hes _ _ _ h1, hn]
  obtain ⟨fa0, sa0, rW, nW, dW, K2⟩ := s1.openFront
  -- the arguments, shared
  have args : ∃ sp, Reps X.K H1 vs (shareL ds) [] sp ∧ (anyBor ts = false → ∀ a ∈ sp, a ∈ fa0 ∨ a ∈ sa0) := by
    cases hb2 : anyBor ts with
    | false =>
      obtain ⟨k1, k2⟩ := tmz_vals a1 (resL_vals hds hb2)
      rw [k1, k2] at rW
      obtain ⟨sp, r', kk⟩ := Reps.share rW
      exact ⟨sp, r', fun _ => kk⟩
    | true =>
      obtain ⟨_, _, r'⟩ := seenL s1 a1 hds
      obtain ⟨sp, r', _⟩ := Reps.share r'
      exact ⟨sp, r', fun z => (by cases z)⟩
  obtain ⟨sp, rA, kA⟩ := args
  refine ⟨shareL ds, sp, rA, len, ?_⟩
  split at e
  · next d hc =>
    refine .inl ⟨d, hc, fun v H' si => ?_⟩
    split at e
    · cases e
    · next hnb =>
      cases e
      obtain ⟨fr, sr, rr, n2, d2, p2, sm⟩ := si
      cases rr with
      | cons rr rr0 =>
        cases rr0
        rename_i f2 s2
        rw [List.append_nil] at n2
        refine q _ _ rfl v H' (K2 H' [(d, v)] (f2 ++ []) (s2 ++ []) sm (.cons rr .nil) (by rw [List.append_nil]; exact n2) (fun a z => (d2 a z).1) (fun a z => .inr (d2 a z).2) fun a z => ?_) trivial
        cases hb2 : anyBor ts with
        | true =>
          rw [hb2] at hnb
          have : d.noSh = true := by simpa using hnb
          have := Rep.noSh rr this
          subst this
          exact (nomatch z)
        | false =>
          rcases p2 a z with z | z
          · rcases kA hb2 a z with z | z
            · exact .inr (.inl z)
            · exact .inl z
          · exact .inr (.inr z)
  · next c hc =>
    cases e
    exact .inr ⟨c, hc, fun H' a sm hc2 => ⟨rfl, c, a, rfl, hc2, qx _ _ rfl H' (SR.pop (s1.same sm))⟩⟩
  · cases e
end
end TV
namespace TV
open PySem PySem.Spec PyProof.Rows L2
section
variable {C : Ctx} {W : Wish} {X : Cx} {H0 : Hp} {P0 : Addr → Prop}

section
variable {K : PySem.W.Frag} {H : Hp}
theorem rep_ty {v : V} {x : D} {f s : List Addr} {c : Ty} {b : Bool} (r : Rep K H v x f s) (h : isD x c = some b) : ∃ t, TyX K H v t ∧ PySem.W.kitOne K t (.type c.name) = some b := by
  cases r with
  | hole => simp [isD] at h
  | non => refine ⟨.type "NoneType", .base .non, ?_⟩; cases c <;> (cases h; exact kit_ty (by decide +kernel))
  | bl x => refine ⟨.type "bool", .base (.bl _), ?_⟩; cases c <;> (cases h; exact kit_ty (by decide +kernel))
  | int i => refine ⟨.type "int", .base (.int _), ?_⟩; cases c <;> (cases h; exact kit_ty (by decide +kernel))
  | str z => refine ⟨.type "str", .base (.str _), ?_⟩; cases c <;> (cases h; exact kit_ty (by decide +kernel))
  | tup hh rr =>
    have k : PySem.W.kitOne K (.type "tuple") (.type c.name) = some b := by cases c <;> (cases h; exact kit_ty (by decide +kernel))
    rcases hh with (hh | ⟨o, hh⟩) | ⟨o, its, n, e1, e2, e3, _⟩
    · exact ⟨_, .base (.tup hh), k⟩
    · exact ⟨_, .fTuple hh, k⟩
    · exact ⟨_, .kTuple e1 e2, k⟩
  | sh hh rr => refine ⟨.type "list", .base (.lst hh), ?_⟩; cases c <;> (cases h; exact kit_ty (by decide +kernel))
  | fz hh rr =>
    have k : PySem.W.kitOne K (.type "list") (.type c.name) = some b := by cases c <;> (cases h; exact kit_ty (by decide +kernel))
    rcases hh with ⟨o, hh⟩ | ⟨o, its, n, e1, e2, _⟩
    · exact ⟨_, .base (.frz hh), k⟩
    · exact ⟨_, .kList e1 e2, k⟩
  | ow hh rr => refine ⟨.type "list", .base (.lst hh), ?_⟩; cases c <;> (cases h; exact kit_ty (by decide +kernel))
  | dct hh => refine ⟨.type "dict", .base (.dK hh), ?_⟩; cases c <;> first | (cases h; done) | (cases h; exact kit_ty (by decide +kernel))
end
theorem bi_none (ok : XOk C X W) {x : Str} (h : x ∈ builtins) : X.mg x = none := ok.bi x h
theorem sE_isi (ok : XOk C X W) {c : Ty} {x : Str} {a : Expr} {p p2 pos : Pos} {ea : E} (hx : x = Str.ofString c.name) (ha : PE X a (tE C W X.K H0 P0 ea)) (hst : notStar a = true) (hg : Gl X "isinstance") (hgx : Gl X x) :
    PE X (.Call (.Name "isinstance" p) [a, .Name x p2] [] pos) (tE C W X.K H0 P0 (.isi ea c)) := by
  have hm : X.mg x = none := by subst hx; cases c <;> exact ok.bi _ (by decide)
  have hv : bootBuiltins x = some (.type c.name) := by subst hx; cases c <;> decide +kernel
  have hnn : x ≠ "__name__" := by subst hx; cases c <;> decide
  have hdb : (x == ("__debug__" : Str)) = false := by subst hx; cases c <;> decide
  refine (pe_callB call_isi hg (ok.bi _ (by decide)) boot_isinstance (pa_cons ha (pa_cons (pe_bltn (v := .ty c.name) hgx hm hv rfl hnn hdb) pa_nil (star_cons rfl)) (star_cons hst)) (by decide) (by decide) (star_cons hst) (star_all (by rfl))).imp fun σ H Q ⟨env, T, r, s, e, q, qx⟩ => ?_
  rw [evE] at e
  rcases bnd_inv e with ⟨c, e1, h1, rfl⟩ | ⟨t1, e1, h1, e⟩
  · exact ⟨env, T, _, s, h1, (fun _ _ z => nomatch z), qx⟩
  refine ⟨env, T, _, s, h1, fun t' e1' z v1 H1 s1 a1 => ?_, (fun _ _ z => nomatch z)⟩
  cases z
  obtain ⟨y, hy, e⟩ := obnd_inv e
  obtain ⟨b, hb, e⟩ := obnd_inv e
  cases e
  obtain ⟨_, _, r1⟩ := seenR (U := []) s1 a1 hy
  obtain ⟨t, ht, hk⟩ := rep_ty r1 hb
  exact ⟨v1, .ty c.name, t, .type c.name, b, rfl, .ty _, ht, hk, q _ _ rfl _ _ (s1.pop1.put (.bl _)) trivial⟩

theorem seenRaw {K : PySem.W.Frag} {H : Hp} {env : Env} {σ : L2.St} : ∀ {ts : List Tm} {vs : List V} {T : List (D × V)} {ds : List D}, SR K H0 P0 env σ (tmz ts vs ++ T) H → ats σ ts vs → rawL env ts = some ds → (∀ d ∈ ds, d.isHole = false) → ∃ f s, Reps K H vs ds f s
  | [], [], T, ds, h, a, e, _ => by cases e; exact ⟨_, _, .nil⟩
  | t :: ts, v :: vs, T, ds, h, a, e, hh => by
    rw [rawL] at e
    cases hd : raw env t with
    | none => rw [hd] at e; cases e
    | some d =>
      rw [hd] at e
      cases hr : rawL env ts with
      | none => rw [hr] at e; cases e
      | some es =>
        rw [hr] at e
        cases e
        obtain ⟨f1, s1, r1⟩ := seen (U := []) (T := tmz ts vs ++ T) h a.1 hd (hh _ List.mem_cons_self)
        obtain ⟨f2, s2, r2⟩ := seenRaw (T := T) (SR.pop1 h) a.2 hr (fun d z => hh d (List.mem_cons_of_mem _ z))
        exact ⟨_, _, .cons r1 r2⟩
  | [], _ :: _, _, _, _, a, _, _ => a.elim
  | _ :: _, [], _, _, _, a, _, _ => a.elim
theorem raw1 {env : Env} {ts : List Tm} {d : D} (h : rawL env ts = some [d]) : ∃ t, ts = [t] ∧ raw env t = some d := by
  cases ts with
  | nil => cases h
  | cons t ts =>
    rw [rawL] at h
    cases hd : raw env t with
    | none => rw [hd] at h; cases h
    | some d' =>
      rw [hd] at h
      cases hr : rawL env ts with
      | none => rw [hr] at h; cases h
      | some es =>
        rw [hr] at h
        cases h
        cases ts with
        | nil => exact ⟨t, rfl, hd⟩
        | cons t2 ts =>
          rw [rawL] at hr
          cases h2 : raw env t2 with
          | none => rw [h2] at hr; cases hr
          | some d2 =>
            rw [h2] at hr
            cases h3 : rawL env ts with
            | none => rw [h3] at hr; cases hr
            | some e3 => rw [h3] at hr; cases hr
/-- plain answers -/
def PlainOk (X : Cx) (op : List D → Option D) (r : List V → Hp → VK → Prop) : Prop :=
  ∀ (H : Hp) (vs : List V) (ds : List D) (f s : List Addr) (z : D) (Q : VK), Reps X.K H vs ds f s → op ds = some z → ∃ w, Rep X.K H w z [] [] ∧ (Q w H → r vs H Q)
def noHole (op : List D → Option D) : Prop := ∀ ds z, op ds = some z → ∀ d ∈ ds, d.isHole = false
theorem bi_core {bi : Bi} {r2 : List V → Hp → VK → Prop} {σ : L2.St} {H : Hp} {Q : VK} {ees : Es} (hh : noHole (opBi C.L bi)) (k : PlainOk X (opBi C.L bi) r2) (h : tE C W X.K H0 P0 (.bi bi ees) σ H Q) : tEs C W X.K H0 P0 ees σ H fun vs H1 => r2 vs H1 Q := by
  obtain ⟨env, T, r, s, e, q, qx⟩ := h
  rw [evE] at e
  rcases bnd_inv e with ⟨c, e1, h1, rfl⟩ | ⟨ts, e1, h1, e⟩
  · exact ⟨env, T, _, s, h1, (fun _ _ z => nomatch z), fun c e z H' s' => by cases z; exact qx _ _ rfl H' s'⟩
  refine ⟨env, T, _, s, h1, fun t' e1' z vs H1 s1 a1 => ?_, (fun _ _ z => nomatch z)⟩
  cases z
  obtain ⟨ds, hd, e⟩ := obnd_inv e
  obtain ⟨z, hz, e⟩ := obnd_inv e
  cases e
  obtain ⟨f, s', r⟩ := seenRaw s1 a1 hd (hh ds z hz)
  obtain ⟨w, rw_, kq⟩ := k H1 vs ds f s' z Q r hz
  exact kq (q _ _ rfl w H1 (s1.pop.put rw_) trivial)
theorem reps1 {K : PySem.W.Frag} {H : Hp} {vs : List V} {d : D} {f s : List Addr} (r : Reps K H vs [d] f s) : ∃ v f' s', vs = [v] ∧ Rep K H v d f' s' := by
  cases r with
  | cons r1 r2 => cases r2; exact ⟨_, _, _, rfl, r1⟩
theorem reps2 {K : PySem.W.Frag} {H : Hp} {vs : List V} {d e : D} {f s : List Addr} (r : Reps K H vs [d, e] f s) : ∃ v w f' s' f2 s2, vs = [v, w] ∧ Rep K H v d f' s' ∧ Rep K H w e f2 s2 := by
  cases r with
  | cons r1 r2 =>
    obtain ⟨w, f2, s2, rfl, r3⟩ := reps1 r2
    exact ⟨_, _, _, _, _, _, rfl, r1, r3⟩
theorem rep_ints {K : PySem.W.Frag} {H : Hp} : ∀ {us : List V} {ds : List D} {f s : List Addr} {ns : List Int}, Reps K H us ds f s → intsOf ds = some ns → us = ns.map V.int
  | [], [], f, s, ns, r, h => by cases h; rfl
  | u :: us, d :: ds, f, s, ns, r, h => by
    cases r with
    | cons r1 r2 =>
      cases d <;> first | (simp [intsOf] at h; done) | skip
      rename_i i
      rw [intsOf] at h
      cases hr : intsOf ds with
      | none => rw [hr] at h; cases h
      | some ms =>
        rw [hr] at h
        cases h
        cases r1
        rw [List.map_cons, rep_ints r2 hr]
  | [], d :: ds, f, s, ns, r, h => by cases r
  | u :: us, [], f, s, ns, r, h => by cases r
theorem rep_lst {K : PySem.W.Frag} {H : Hp} {v : V} {k : LK} {ds : List D} {f s : List Addr} (r : Rep K H v (.lst k ds) f s) : ∃ a us f' s', v = .ref a ∧ SqL K H a us ∧ Reps K H us ds f' s' := by
  cases r with
  | sh h r => exact ⟨_, _, _, _, rfl, SqL.of h, r⟩
  | fz h r => exact ⟨_, _, _, _, rfl, h.sq, r⟩
  | ow h r => exact ⟨_, _, _, _, rfl, SqL.of h, r⟩
theorem great_mem : ∀ {ns : List Int}, ns ≠ [] → listGreatest ns ∈ ns ∧ ∀ y ∈ ns, y ≤ listGreatest ns
  | [x], _ => ⟨List.mem_cons_self, fun y z => by rw [List.mem_singleton.mp z]; exact Int.le_refl _⟩
  | x :: y :: ns, _ => by
    obtain ⟨h1, h2⟩ := great_mem (ns := y :: ns) (by simp)
    have e : listGreatest (x :: y :: ns) = max x (listGreatest (y :: ns)) := rfl
    rw [e]
    constructor
    · by_cases h : x ≤ listGreatest (y :: ns)
      · rw [Int.max_eq_right h]; exact List.mem_cons_of_mem _ h1
      · rw [Int.max_eq_left (by omega)]; exact List.mem_cons_self
    · intro z hz
      rcases List.mem_cons.mp hz with rfl | hz
      · exact Int.le_max_left _ _
      · exact Int.le_trans (h2 z hz) (Int.le_max_right _ _)
theorem least_mem : ∀ {ns : List Int}, ns ≠ [] → listLeast ns ∈ ns ∧ ∀ y ∈ ns, listLeast ns ≤ y
  | [x], _ => ⟨List.mem_cons_self, fun y z => by rw [List.mem_singleton.mp z]; exact Int.le_refl _⟩
  | x :: y :: ns, _ => by
    obtain ⟨h1, h2⟩ := least_mem (ns := y :: ns) (by simp)
    have e : listLeast (x :: y :: ns) = min x (listLeast (y :: ns)) := rfl
    rw [e]
    constructor
    · by_cases h : x ≤ listLeast (y :: ns)
      · rw [Int.min_eq_left h]; exact List.mem_cons_self
      · rw [Int.min_eq_right (by omega)]; exact List.mem_cons_of_mem _ h1
    · intro z hz
      rcases List.mem_cons.mp hz with rfl | hz
      · exact Int.min_le_left _ _
      · exact Int.le_trans (Int.min_le_right _ _) (h2 z hz)
theorem pk_abs : PlainOk X biAbs (fun xs H Q => ∃ i, xs = [.int i] ∧ Q (.int (if i < 0 then -i else i)) H) := fun H vs ds f s z Q r h => by
  unfold biAbs at h
  split at h
  · cases h
    obtain ⟨v, _, _, rfl, r1⟩ := reps1 r
    cases r1
    exact ⟨_, .int _, fun q => ⟨_, rfl, q⟩⟩
  · cases h
theorem pk_int : PlainOk X biInt (fun xs H Q => (∃ i, xs = [.int i] ∧ Q (.int i) H) ∨ ∃ k, xs = [.bl k] ∧ Q (.int (if k then 1 else 0)) H) := fun H vs ds f s z Q r h => by
  unfold biInt at h
  split at h
  · cases h
    obtain ⟨v, _, _, rfl, r1⟩ := reps1 r
    cases r1
    exact ⟨_, .int _, fun q => .inl ⟨_, rfl, q⟩⟩
  · cases h
    obtain ⟨v, _, _, rfl, r1⟩ := reps1 r
    cases r1
    exact ⟨_, .int _, fun q => .inr ⟨_, rfl, q⟩⟩
  · cases h
theorem pk_str (ok : XOk C X W) : PlainOk X (biStr C.L) (fun xs H Q => ∃ i, xs = [.int i] ∧ i.natAbs.log2 < 1920 ∧ Q (.str (toString i)) H) := fun H vs ds f s z Q r h => by
  unfold biStr at h
  split at h
  · next i =>
    cases hc : C.L.dig i with
    | false => rw [hc] at h; cases h
    | true =>
      rw [hc] at h
      cases h
      obtain ⟨v, _, _, rfl, r1⟩ := reps1 r
      cases r1
      exact ⟨_, .str _, fun q => ⟨_, rfl, ok.dig _ hc, q⟩⟩
  · cases h
theorem pk_len (ok : XOk C X W) : PlainOk X (biLen C.L) (fun xs H Q => (∃ p ys, xs = [.ref p] ∧ (SqL X.K H p ys ∨ SqT X.K H p ys) ∧ Q (.int ys.length) H) ∨ ∃ z, xs = [.str z] ∧ z.length ≤ sizeLine ∧ Q (.int z.length) H) := fun H vs ds f s z Q r h => by
  unfold biLen at h
  split at h
  · cases h
    obtain ⟨v, _, _, rfl, r1⟩ := reps1 r
    obtain ⟨a, us, _, _, rfl, hq, r2⟩ := rep_lst r1
    exact ⟨_, .int _, fun q => .inl ⟨a, us, rfl, .inl hq, by rw [r2.length]; exact q⟩⟩
  · cases h
    obtain ⟨v, _, _, rfl, r1⟩ := reps1 r
    cases r1 with
    | tup hh rr => exact ⟨_, .int _, fun q => .inl ⟨_, _, rfl, .inr hh, by rw [rr.length]; exact q⟩⟩
  · next x =>
    cases hc : C.L.len x.length with
    | false => rw [hc] at h; cases h
    | true =>
      rw [hc] at h
      cases h
      obtain ⟨v, _, _, rfl, r1⟩ := reps1 r
      cases r1
      exact ⟨_, .int _, fun q => .inr ⟨_, rfl, Nat.le_of_lt (ok.len _ hc), q⟩⟩
  · cases h
theorem pk_sum : PlainOk X biSum (rSum X.K) := fun H vs ds f s z Q r h => by
  unfold biSum at h
  split at h
  · next k ds =>
    cases hi : intsOf ds with
    | none => rw [hi] at h; cases h
    | some ns =>
      rw [hi] at h
      cases h
      obtain ⟨v, _, _, rfl, r1⟩ := reps1 r
      obtain ⟨a, us, _, _, rfl, hq, r2⟩ := rep_lst r1
      have := rep_ints r2 hi
      subst this
      exact ⟨_, .int _, fun q => ⟨a, ns, rfl, hq, q⟩⟩
  · cases h
theorem rep_bools {K : PySem.W.Frag} {H : Hp} : ∀ {us : List V} {ds : List D} {f s : List Addr} {ns : List Bool}, Reps K H us ds f s → boolsOf ds = some ns → us = ns.map V.bl
  | [], [], f, s, ns, r, h => by cases h; rfl
  | u :: us, d :: ds, f, s, ns, r, h => by
    cases r with
    | cons r1 r2 =>
      cases d <;> first | (simp [boolsOf] at h; done) | skip
      rename_i i
      rw [boolsOf] at h
      cases hr : boolsOf ds with
      | none => rw [hr] at h; cases h
      | some ms =>
        rw [hr] at h
        cases h
        cases r1
        rw [List.map_cons, rep_bools r2 hr]
theorem pk_all : PlainOk X biAll (rAll X.K) := fun H vs ds f s z Q r h => by
  unfold biAll at h
  split at h
  · next k ds =>
    cases hi : boolsOf ds with
    | none => rw [hi] at h; cases h
    | some ns =>
      rw [hi] at h
      cases h
      obtain ⟨v, _, _, rfl, r1⟩ := reps1 r
      obtain ⟨a, us, _, _, rfl, hq, r2⟩ := rep_lst r1
      have := rep_bools r2 hi
      subst this
      exact ⟨_, .bl _, fun q => ⟨a, ns, rfl, hq, q⟩⟩
  · cases h
theorem pk_max : PlainOk X biMax (fun xs H Q => (∃ i j, xs = [.int i, .int j] ∧ Q (.int (if j > i then j else i)) H) ∨ rMax X.K xs H Q) := fun H vs ds f s z Q r h => by
  unfold biMax at h
  split at h
  · cases h
    obtain ⟨v, w, _, _, _, _, rfl, r1, r2⟩ := reps2 r
    cases r1
    cases r2
    exact ⟨_, .int _, fun q => .inl ⟨_, _, rfl, q⟩⟩
  · next k ds =>
    cases hi : intsOf ds with
    | none => rw [hi] at h; cases h
    | some ns =>
      rw [hi] at h
      have h' : (if ns.isEmpty then none else some (D.int (listGreatest ns))) = some z := h
      split at h'
      · cases h'
      · next hne =>
        cases h'
        obtain ⟨v, _, _, rfl, r1⟩ := reps1 r
        obtain ⟨a, us, _, _, rfl, hq, r2⟩ := rep_lst r1
        have := rep_ints r2 hi
        subst this
        have hn : ns ≠ [] := by intro z; rw [z] at hne; exact hne rfl
        obtain ⟨g1, g2⟩ := great_mem hn
        refine ⟨_, .int _, fun q => .inr ⟨a, ns, rfl, hq, List.length_pos_iff.mpr hn, fun m hm hle => ?_⟩⟩
        have : m = listGreatest ns := Int.le_antisymm (g2 m hm) (hle _ g1)
        rw [this]
        exact q
  · cases h
theorem pk_min : PlainOk X biMin (fun xs H Q => (∃ i j, xs = [.int i, .int j] ∧ Q (.int (if j < i then j else i)) H) ∨ rMin X.K xs H Q) := fun H vs ds f s z Q r h => by
  unfold biMin at h
  split at h
  · cases h
    obtain ⟨v, w, _, _, _, _, rfl, r1, r2⟩ := reps2 r
    cases r1
    cases r2
    exact ⟨_, .int _, fun q => .inl ⟨_, _, rfl, q⟩⟩
  · next k ds =>
    cases hi : intsOf ds with
    | none => rw [hi] at h; cases h
    | some ns =>
      rw [hi] at h
      have h' : (if ns.isEmpty then none else some (D.int (listLeast ns))) = some z := h
      split at h'
      · cases h'
      · next hne =>
        cases h'
        obtain ⟨v, _, _, rfl, r1⟩ := reps1 r
        obtain ⟨a, us, _, _, rfl, hq, r2⟩ := rep_lst r1
        have := rep_ints r2 hi
        subst this
        have hn : ns ≠ [] := by intro z; rw [z] at hne; exact hne rfl
        obtain ⟨g1, g2⟩ := least_mem hn
        refine ⟨_, .int _, fun q => .inr ⟨a, ns, rfl, hq, List.length_pos_iff.mpr hn, fun m hm hle => ?_⟩⟩
        have : m = listLeast ns := Int.le_antisymm (hle _ g1) (g2 m hm)
        rw [this]
        exact q
  · cases h
theorem nh_of {op : List D → Option D} (h : ∀ ds z, op ds = some z → ds.all (fun d => !d.isHole) = true) : noHole op := fun ds z e d hd => by
  have := List.all_eq_true.mp (h ds z e) d hd
  simpa using this
theorem nh_bi (bi : Bi) (L : Lim) : noHole (opBi L bi) := nh_of fun ds z h => by
  cases bi <;> simp only [opBi] at h
  · unfold biAbs at h; split at h <;> first | rfl | cases h
  · unfold biInt at h; split at h <;> first | rfl | cases h
  · unfold biStr at h; split at h <;> first | rfl | cases h
  · unfold biLen at h; split at h <;> first | rfl | cases h
  · unfold biList at h; split at h <;> first | rfl | cases h
  · unfold biSum at h; split at h <;> first | rfl | cases h
  · unfold biMax at h; split at h <;> first | rfl | cases h
  · unfold biMin at h; split at h <;> first | rfl | cases h
  · unfold biAll at h; split at h <;> first | rfl | cases h
theorem sE_bi (ok : XOk C X W) {bi : Bi} {x : Str} (hx : x = bi.name) {a : Expr} {es : List Expr} {p pos : Pos} {ees : Es} (ha : PA X (a :: es) (tEs C W X.K H0 P0 ees)) (hst : (a :: es).all notStar = true) (hg : Gl X x) :
    PE X (.Call (.Name x p) (a :: es) [] pos) (tE C W X.K H0 P0 (.bi bi ees)) := by
  have st := hst
  rw [List.all_cons] at st
  have s1 := star_cons (es := es) (env := X.env) (and2 st).1
  have s2 := star_all (env := X.env) (pos := pos) (and2 st).2
  subst hx
  have hm : X.mg bi.name = none := by cases bi <;> exact ok.bi _ (by decide)
  have nn : bi.name ≠ "__name__" := by cases bi <;> decide
  have nd : (bi.name == ("__debug__" : Str)) = false := by cases bi <;> decide
  cases bi with
  | abs => exact (pe_callB call_abs hg hm (by decide +kernel) ha nn nd s1 s2).imp fun σ H Q h => bi_core (nh_bi .abs C.L) pk_abs h
  | int => exact (pe_callTy call_int1 hg hm (by decide +kernel) ha nn nd s1 s2).imp fun σ H Q h => bi_core (nh_bi .int C.L) pk_int h
  | str => exact (pe_callTy call_str_int hg hm (by decide +kernel) ha nn nd s1 s2).imp fun σ H Q h => bi_core (nh_bi .str C.L) (pk_str ok) h
  | len => exact (pe_callB (call_len_seq.or call_len_str) hg hm (by decide +kernel) ha nn nd s1 s2).imp fun σ H Q h => bi_core (nh_bi .len C.L) (pk_len ok) h
  | sum => exact (pe_callB (cr_sum ok.calm) hg hm (by decide +kernel) ha nn nd s1 s2).imp fun σ H Q h => bi_core (nh_bi .sum C.L) pk_sum h
  | max => exact (pe_callB ((call_max2 ok.calm).or (cr_max ok.calm)) hg hm (by decide +kernel) ha nn nd s1 s2).imp fun σ H Q h => bi_core (nh_bi .max C.L) pk_max h
  | min => exact (pe_callB ((call_min2 ok.calm).or (cr_min ok.calm)) hg hm (by decide +kernel) ha nn nd s1 s2).imp fun σ H Q h => bi_core (nh_bi .min C.L) pk_min h
  | all => exact (pe_callB (cr_all ok.calm) hg hm (by decide +kernel) ha nn nd s1 s2).imp fun σ H Q h => bi_core (nh_bi .all C.L) pk_all h
  | list =>
    refine (pe_callTy call_list_of hg hm (by decide +kernel) ha nn nd s1 s2).imp fun σ H Q ⟨env, T, r, s, e, q, qx⟩ => ?_
    rw [evE] at e
    rcases bnd_inv e with ⟨c, e1, h1, rfl⟩ | ⟨ts, e1, h1, e⟩
    · exact ⟨env, T, _, s, h1, (fun _ _ z => nomatch z), fun c e z H' s' => by cases z; exact qx _ _ rfl H' s'⟩
    refine ⟨env, T, _, s, h1, fun t' e1' z vs H1 s1 a1 => ?_, (fun _ _ z => nomatch z)⟩
    cases z
    obtain ⟨ds, hd, e⟩ := obnd_inv e
    obtain ⟨z, hz, e⟩ := obnd_inv e
    cases e
    simp only [opBi] at hz
    unfold biList at hz
    split at hz
    · next k ds =>
      split at hz
      · next hn =>
        cases hz
        obtain ⟨t, rfl, hr⟩ := raw1 hd
        have hl := ats_len a1
        obtain ⟨v, rfl⟩ : ∃ v, vs = [v] := by
          cases vs with
          | nil => cases hl
          | cons v vs => cases vs with
            | nil => exact ⟨v, rfl⟩
            | cons w ws => simp at hl
        obtain ⟨us, s4, l4, kd⟩ := SR.kids (j := 0) s1 rfl a1.1 hr (x := .lst k ds) rfl hn
        obtain ⟨p, rfl, hq⟩ := kid_sq kd
        refine ⟨p, us, rfl, .inl hq, fun p2 hp => q _ _ rfl _ _ ?_ trivial⟩
        have s5 := SR.newL (vs := us) (ds := ds) s4 hp (fun fa sa r n dj => by
          rw [zip_fst l4, zip_snd l4] at r
          exact ⟨fa, sa, r, n, fun _ z => z, fun _ z => z⟩)
        exact s5.drop1
      · cases hz
    · cases hz

theorem sE_pop (ok : XOk C X W) {i : Nat} {x : Str} {p apos cpos : Pos} (h : PE X (.Name x p) (tVar i)) (hline : (apos.endLine == cpos.line) = true) : PE X (.Call (.Attribute (.Name x p) "pop" apos) [] [] cpos) (tE C W X.K H0 P0 (.pop i)) :=
  (pe_bm0 PySem.F.plainAttrs_list PySem.F.slot_list_pop PySem.F.type_list_pop mt_pop h rfl hline).imp fun σ H Q ⟨env, T, r, s, e, q, qx⟩ => by
  rw [evE] at e
  split at e
  · next ds hi =>
    split at e
    · next d hl =>
      split at e
      · next hw =>
        cases e
        obtain ⟨v, hv⟩ := s.has i _ hi rfl
        have hlt : i < env.length := (List.getElem?_eq_some_iff.mp hi).1
        obtain ⟨w, f, s', fr, sr, e1, rp, nf, df, dsr, tf, ts, k⟩ := SRi.at (j := T.length + i) s.sr (by rw [slot_get (j := 0)]; exact hi)
        rw [slot_getV, svs_get hv hi rfl] at e1
        cases e1
        cases rp with
        | ow hh rr =>
          rename_i a vs f0
          obtain ⟨ds', rfl⟩ : ∃ ds', ds = ds' ++ [d] := ⟨ds.dropLast, by
            have hne : ds ≠ [] := by intro z; rw [z] at hl; cases hl
            have : d = ds.getLast hne := by rw [List.getLast?_eq_getLast hne] at hl; exact (Option.some.inj hl).symm
            rw [this]
            exact (List.dropLast_concat_getLast hne).symm⟩
          obtain ⟨va, vb, fa, fb, sa, sb, e1, e2, e3, r1, r2⟩ := Reps.split rr
          subst e1 e2 e3
          cases r2 with
          | cons r2 r3 =>
            cases r3
            rename_i v2 f2 s2
            have nf' := List.nodup_cons.mp nf
            have nfa := List.nodup_append.mp nf'.2
            refine ⟨_, hv, .inl ⟨rfl, _, SqL.of hh⟩, a, va ++ [v2], v2, rfl, rfl, hh, by simp, q _ _ rfl v2 _ ?_ trivial⟩
            have hsm : Same H0 (L2.upd H a (.lst (va ++ [v2]).dropLast)) := fun b o eb => by
              have hb : b ≠ a := fun z => by
                have := (df a List.mem_cons_self).2.2.2
                rw [z, this] at eb; cases eb
              rw [upd_ne hb]
              exact s.sm b o eb
            have dl : (va ++ [v2]).dropLast = va := by simp
            rw [dl] at hsm ⊢
            have na : a ∉ fa ++ (f2 ++ []) := nf'.1
            have nas : a ∉ sa ++ (s2 ++ []) := (df a List.mem_cons_self).1
            have r1' := Reps.upd (o := .lst va) hh r1 (fun z => na (List.mem_append_left _ z)) (fun z => nas (List.mem_append_left _ z))
            have r2' := Rep.upd (o := .lst va) hh r2 (fun z => na (List.mem_append_right _ (by simpa using z))) (fun z => nas (List.mem_append_right _ (by simpa using z)))
            have h2 := k (L2.upd H a (.lst va)) [v2] [d] f2 s2 (.ref a) (.lst .ow ds') (a :: fa) sa
              (fun {v d f s} h1 h2 r => Rep.upd hh r (fun z => (df a List.mem_cons_self).2.1 (h1 a z)) (fun z => (df a List.mem_cons_self).2.2.1 (h2 a z))) hsm (by simpa using (Reps.cons r2' .nil)) (.ow upd_same r1')
              (by
                refine List.nodup_append.mpr ⟨by simpa using nfa.2.1, List.nodup_cons.mpr ⟨fun z => na (List.mem_append_left _ z), nfa.1⟩, fun b z c z2 e => ?_⟩
                subst e
                rcases List.mem_cons.mp z2 with rfl | z2
                · exact na (List.mem_append_right _ (by simpa using z))
                · exact nfa.2.2 b z2 b (by simpa using z) rfl)
              (fun b z => by
                have hb : b ∈ a :: (fa ++ (f2 ++ [])) := by
                  rcases List.mem_append.mp z with z | z
                  · exact List.mem_cons_of_mem _ (List.mem_append_right _ (by simpa using z))
                  · rcases List.mem_cons.mp z with rfl | z
                    · exact List.mem_cons_self
                    · exact List.mem_cons_of_mem _ (List.mem_append_left _ z)
                refine ⟨fun z2 => (df b hb).1 ?_, .inl hb⟩
                rcases List.mem_append.mp z2 with z2 | z2
                · exact List.mem_append_right _ (by simpa using z2)
                · exact List.mem_append_left _ z2)
              (fun b z => .inl (by
                rcases List.mem_append.mp z with z | z
                · exact List.mem_append_right _ (by simpa using z)
                · exact List.mem_append_left _ z))
            rw [slot_set (by simp), slot_set (by simp)] at h2
            have hd : (ds' ++ [d]).dropLast = ds' := by simp
            rw [hd]
            refine ⟨by rw [List.length_set]; exact s.len, some_set s.has (fun _ => ⟨_, hv⟩), ?_⟩
            rw [svs_same hv rfl]
            exact h2
      · cases e
    · cases e
  · cases e
end
end TV
namespace TV
open PySem PySem.Spec PyProof.Rows L2
section
variable (C : Ctx) (W : Wish) (K : PySem.W.Frag) (H0 : Hp) (P0 : Addr → Prop)
/-- what is wanted of the core's answer -/
def Post (D : Ends) (T : List (TV.D × V)) : SRes → Prop
  | .nx e => ∀ σ H, SR K H0 P0 e σ T H → D.nx σ H
  | .rt d => ∀ v H, SRi K H0 P0 [v] [d] H → D.rt v H
  | .bk e => ∀ σ H, SR K H0 P0 e σ T H → D.bk σ H
  | .ct e => ∀ σ H, SR K H0 P0 e σ T H → D.ct σ H
  | .ex c e => ∀ σ H, SR K H0 P0 e σ T H → W c σ H
def tS (s : S) : TS := fun D σ H => ∃ env T r, SR K H0 P0 env σ T H ∧ evS C s env = some r ∧ Post W K H0 P0 D T r
def tSs (s : Ss) : TS := fun D σ H => ∃ env T r, SR K H0 P0 env σ T H ∧ evSs C s env = some r ∧ Post W K H0 P0 D T r
end
section
variable {C : Ctx} {W : Wish} {X : Cx} {H0 : Hp} {P0 : Addr → Prop}
theorem sbnd_inv {α : Type} {x : Out α} {f : α → Env → Option SRes} {r : SRes} (h : sbnd x f = some r) : (∃ c e, x = some (.ex c e) ∧ r = .ex c e) ∨ ∃ a e, x = some (.ok a e) ∧ f a e = some r := by
  unfold sbnd at h
  split at h
  · cases h
  · cases h; exact .inl ⟨_, _, rfl, rfl⟩
  · exact .inr ⟨_, _, rfl, h⟩

theorem sSs_nil : PSs X [] (tSs C W X.K H0 P0 .nil) := pss_nil.imp fun D σ H ⟨env, T, r, s, e, p⟩ => by
  rw [evSs] at e
  cases e
  exact p σ H s
theorem sSs_cons {st : Stmt} {rest : List Stmt} {s : S} {ss : Ss} (h1 : PS X st (tS C W X.K H0 P0 s)) (h2 : PSs X rest (tSs C W X.K H0 P0 ss)) : PSs X (st :: rest) (tSs C W X.K H0 P0 (.cons s ss)) := (pss_cons h1 h2).imp fun D σ H ⟨env, T, r, sr, e, p⟩ => by
  rw [evSs] at e
  split at e <;> first | (cases e; done) | skip
  · next e1 he => exact ⟨env, T, _, sr, he, fun σ' H' s' => ⟨e1, T, r, s', e, p⟩⟩
  · next d he => cases e; exact ⟨env, T, _, sr, he, p⟩
  · next e1 he => cases e; exact ⟨env, T, _, sr, he, p⟩
  · next e1 he => cases e; exact ⟨env, T, _, sr, he, p⟩
  · next c e1 he => cases e; exact ⟨env, T, _, sr, he, p⟩
theorem sSs_kil {rest : List Stmt} {is : List Nat} {ss : Ss} (h2 : PSs X rest (tSs C W X.K H0 P0 ss)) : PSs X rest (tSs C W X.K H0 P0 (.cons (.kil is) ss)) := h2.imp fun D σ H ⟨env, T, r, sr, e, p⟩ => by
  rw [evSs, evS] at e
  exact ⟨_, T, r, sr.kill is, e, p⟩

theorem asg_core {e : E} {i : Nat} {D : Ends} {σ : L2.St} {H : Hp} (h : tS C W X.K H0 P0 (.asg i e) D σ H) : tE C W X.K H0 P0 e σ H fun x H1 => gName i x σ H1 D.nx := by
  obtain ⟨env, T, r, s, ev, p⟩ := h
  rw [evS] at ev
  rcases sbnd_inv ev with ⟨c, e1, h1, rfl⟩ | ⟨t, e1, h1, ev⟩
  · exact ⟨env, T, _, s, h1, (fun _ _ z => nomatch z), fun c e z H' s' => by cases z; exact p σ H' s'⟩
  refine ⟨env, T, _, s, h1, fun t' e1' z v1 H1 s1 a1 => ?_, (fun _ _ z => nomatch z)⟩
  cases z
  cases t with
  | val d =>
    cases ev
    exact p _ _ s1.asg
  | bor j => cases ev
/-- an invariant of the state may be used in an implication -/
theorem _root_.L2.PS.impI {e : Stmt} {t t' : TS} (h : PS X e t) (k : ∀ D σ H, σ.length = X.N.length → t' D σ H → t D σ H) : PS X e t' := ⟨fun pins s σ H D I hq => h.run pins s σ H D I (k D σ H I.len hq)⟩
theorem sS_asg (ok : XOk C X W) {i : Nat} {x : Str} {e : Expr} {pos pos' : Pos} {ee : E} (hi : X.N[i]? = some x) (hx : Loc X.env.scope x) (hf : X.fn x = true ∨ X.env.scope.names.lookup x = some .local) (he : PE X e (tE C W X.K H0 P0 ee)) (hs : swapsWith e (some (.Name x pos')) pos.line X.env = pure false) :
    PS X (.Assign [.Name x pos'] e pos) (tS C W X.K H0 P0 (.asg i ee)) := (ps_set ok.nd hi hx he hs hf).imp fun D σ H h => asg_core h

theorem _root_.L2.PG.imp {tg : Expr} {t t' : TG} (h : PG X tg t) (k : ∀ v σ H Q, σ.length = X.N.length → t' v σ H Q → t v σ H Q) : PG X tg t' := ⟨fun pins s σ H v u Q I r hq => h.run pins s σ H v u Q I r (k v σ H Q I.len hq)⟩
theorem _root_.L2.PGs.imp {tg : List Expr} {t t' : TGs} (h : PGs X tg t) (k : ∀ v σ H Q, σ.length = X.N.length → t' v σ H Q → t v σ H Q) : PGs X tg t' := ⟨fun pins s σ H v u Q I r hq => h.run pins s σ H v u Q I r (k v σ H Q I.len hq)⟩
theorem PG.or {tg : Expr} {t u : TG} (h : PG X tg t) (h' : PG X tg u) : PG X tg (fun v σ H Q => t v σ H Q ∨ u v σ H Q) := ⟨fun pins s σ H v w Q I r hq => hq.elim (h.run pins s σ H v w Q I r) (h'.run pins s σ H v w Q I r)⟩
/-- names take values, one after another -/
def putS : List Nat → List V → L2.St → L2.St
  | i :: is, v :: vs, σ => putS is vs (σ.set i (some v))
  | _, _, σ => σ
def gNames (is : List Nat) : TGs := fun vs σ H Q => vs.length = is.length ∧ Q (putS is vs σ) H
/-- names, all of the def's own -/
inductive NamesAt (X : Cx) : List Expr → List Nat → Prop where
  | nil : NamesAt X [] []
  | cons {x : Str} {pos : Pos} {i : Nat} {es : List Expr} {is : List Nat} (hi : X.N[i]? = some x) (hx : Loc X.env.scope x) (hf : X.fn x = true ∨ X.env.scope.names.lookup x = some .local) (r : NamesAt X es is) : NamesAt X (.Name x pos :: es) (i :: is)
theorem pgs_names (hN : X.N.Nodup) : ∀ {es : List Expr} {is : List Nat}, NamesAt X es is → PGs X es (gNames is)
  | _, _, .nil => pgs_nil.imp fun v σ H Q _ ⟨h1, h2⟩ => ⟨List.length_eq_zero_iff.mp h1, by cases v <;> first | exact h2 | (simp at h1)⟩
  | _, _, .cons hi hx hf r => (pgs_cons (pg_name hN hi hx hf) (pgs_names hN r)).imp fun vs σ H Q _ ⟨h1, h2⟩ => by
    cases vs with
    | nil => simp at h1
    | cons v vs => exact ⟨v, vs, rfl, by simpa using h1, h2⟩
theorem SR.puts {K : PySem.W.Frag} {H : Hp} {T : List (D × V)} : ∀ {is : List Nat} {ds : List D} {vs : List V} {env : Env} {σ : L2.St}, ds.length = is.length → vs.length = is.length → SR K H0 P0 env σ (ds.zip vs ++ T) H → SR K H0 P0 (putE is ds env) (putS is vs σ) T H
  | [], [], [], env, σ, _, _, h => h
  | i :: is, d :: ds, v :: vs, env, σ, h1, h2, h => by
    have h' : SR K H0 P0 env σ ((d, v) :: (ds.zip vs ++ T)) H := h
    exact SR.puts (env := env.set i d) (σ := σ.set i (some v)) (is := is) (ds := ds) (vs := vs) (by simpa using h1) (by simpa using h2) h'.asg
  | [], _ :: _, _, _, _, h1, _, _ => by simp at h1
  | [], [], _ :: _, _, _, _, h2, _ => by simp at h2
  | _ :: _, [], _, _, _, h1, _, _ => by simp at h1
  | _ :: _, _ :: _, [], _, _, _, h2, _ => by simp at h2
theorem namesAt_lt : ∀ {es : List Expr} {is : List Nat}, NamesAt X es is → ∀ i ∈ is, i < X.N.length
  | _, _, .nil, i, h => nomatch h
  | _, _, .cons hi _ _ r, j, h => by
    rcases List.mem_cons.mp h with rfl | h
    · exact (List.getElem?_eq_some_iff.mp hi).1
    · exact namesAt_lt r j h
theorem namesAt_len : ∀ {es : List Expr} {is : List Nat}, NamesAt X es is → es.length = is.length
  | _, _, .nil => rfl
  | _, _, .cons _ _ _ r => by rw [List.length_cons, List.length_cons, namesAt_len r]
theorem rep_seq2 {K : PySem.W.Frag} {H : Hp} {v : V} {x : D} {f s : List Addr} (r : Rep K H v x f s) (n : f.Nodup) (hs : x.isSeq = true) : ∃ p us f' s', v = .ref p ∧ (((∃ k ds, x = .lst k ds) ∧ SqL K H p us) ∨ ((∃ ds, x = .tup ds) ∧ SqT K H p us)) ∧ Reps K H us x.kids f' s' ∧ f'.Nodup ∧ (∀ a ∈ f', a ∈ f) ∧ ∀ a ∈ s', a ∈ s := by
  cases r with
  | tup h r => exact ⟨_, _, _, _, rfl, .inr ⟨⟨_, rfl⟩, h⟩, r, n, fun _ z => z, fun _ z => z⟩
  | sh h r => exact ⟨_, _, _, _, rfl, .inl ⟨⟨_, _, rfl⟩, SqL.of h⟩, r, n, fun _ z => z, fun _ z => List.mem_cons_of_mem _ z⟩
  | fz h r => exact ⟨_, _, _, _, rfl, .inl ⟨⟨_, _, rfl⟩, h.sq⟩, r, n, fun _ z => z, fun _ z => z⟩
  | ow h r => exact ⟨_, _, _, _, rfl, .inl ⟨⟨_, _, rfl⟩, SqL.of h⟩, r, (List.nodup_cons.mp n).2, fun _ z => List.mem_cons_of_mem _ z, fun _ z => z⟩
  | _ => simp [D.isSeq] at hs
/-- a list or a tuple that waits: its things wait -/
theorem SR.openSeq {K : PySem.W.Frag} {H : Hp} {env : Env} {σ : L2.St} {T : List (D × V)} {d : D} {v : V} (h : SR K H0 P0 env σ ((d, v) :: T) H) (hs : d.isSeq = true) : ∃ p us, v = .ref p ∧ us.length = d.kids.length ∧ (((∃ k ds, d = .lst k ds) ∧ SqL K H p us) ∨ ((∃ ds, d = .tup ds) ∧ SqT K H p us)) ∧ SR K H0 P0 env σ (d.kids.zip us ++ T) H := by
  obtain ⟨fa, sa, r, n, dj, k⟩ := SR.openFront (A := [(d, v)]) (T := T) h
  cases r with
  | cons r1 r2 =>
    cases r2
    rename_i f s
    rw [List.append_nil] at n dj k
    obtain ⟨p, us, f', s', hv, hsq, rs, n', k1, k2⟩ := rep_seq2 r1 n hs
    have hl := rs.length
    exact ⟨p, us, hv, hl, hsq, k H (d.kids.zip us) f' s' (Same.refl H) (by rw [zip_fst hl, zip_snd hl]; exact rs) n' (fun a z z2 => dj a (k1 a z) (by rw [List.append_nil]; exact k2 a z2)) (fun a z => .inl (k1 a z)) (fun a z => .inl (by rw [List.append_nil]; exact k2 a z))⟩
theorem putE_len : ∀ (is : List Nat) (ds : List D) (env : Env), (putE is ds env).length = env.length
  | [], _, _ => by cases ‹List D› <;> rfl
  | _ :: _, [], _ => rfl
  | i :: is, d :: ds, env => by rw [putE, putE_len is ds, List.length_set]
theorem sS_unp (ok : XOk C X W) {es : List Expr} {is : List Nat} {k : Nat} {tp pos : Pos} {e : Expr} {ee : E} (hn : NamesAt X es is) (hk : es.length = is.length) (he : PE X e (tE C W X.K H0 P0 ee)) (hs : swapsWithSole [.Tuple es k tp] e pos.line X.env = pure false) (hw : swappedStores [.Tuple es k tp] e X.env = pure none)
    (hu : PG X (.Tuple es k tp) (fun v σ H Q => gTup X.K is.length (gNames is) v σ H Q ∨ gLst X.K is.length (gNames is) v σ H Q)) : PS X (.Assign [.Tuple es k tp] e pos) (tS C W X.K H0 P0 (.unp is ee)) := (ps_asg he hu hs hw).impI fun D σ H hl h => by
  obtain ⟨env, T, r, s, ev, p⟩ := h
  rw [evS] at ev
  rcases sbnd_inv ev with ⟨c, e1, h1, rfl⟩ | ⟨t, e1, h1, ev⟩
  · exact ⟨env, T, _, s, h1, (fun _ _ z => nomatch z), fun c e z H' s' => by cases z; exact p σ H' s'⟩
  refine ⟨env, T, _, s, h1, fun t' e1' z v1 H1 s1 a1 => ?_, (fun _ _ z => nomatch z)⟩
  cases z
  split at ev
  · next ds =>
    split at ev
    · next hlen =>
      cases ev
      obtain ⟨q, us, rfl, l1, hq, s2⟩ := s1.openSeq (d := .tup ds) rfl
      rcases hq with ⟨⟨_, _, z⟩, _⟩ | ⟨_, hq⟩
      · cases z
      have l1' : us.length = ds.length := l1
      exact .inl ⟨q, us, rfl, hq, by rw [l1', hlen], by rw [l1', hlen], p _ _ (SR.puts hlen (by rw [l1', hlen]) s2)⟩
    · cases ev
  · next kk ds =>
    split at ev
    · next hlen =>
      cases ev
      have hlen : ds.length = is.length := by simp at hlen; exact hlen.1
      obtain ⟨q, us, rfl, l1, hq, s2⟩ := s1.openSeq (d := .lst kk ds) rfl
      rcases hq with ⟨_, hq⟩ | ⟨⟨_, z⟩, _⟩
      · have l1' : us.length = ds.length := l1
        exact .inr ⟨q, us, rfl, hq, by rw [l1', hlen], by rw [l1', hlen], p _ _ (SR.puts hlen (by rw [l1', hlen]) s2)⟩
      · cases z
    · cases ev
  · cases ev

theorem sS_if {c : Expr} {a b : List Stmt} {pos : Pos} {ec : E} {sa sb : Ss} (hc : PT X c (tT C W X.K H0 P0 ec)) (ha : PSs X a (tSs C W X.K H0 P0 sa)) (hb : PSs X b (tSs C W X.K H0 P0 sb)) : PS X (.If c a b pos) (tS C W X.K H0 P0 (.ifs ec sa sb)) := (ps_if hc ha hb).imp fun D σ H ⟨env, T, r, s, e, p⟩ => by
  rw [evS] at e
  rcases sbnd_inv e with ⟨c, e1, h1, rfl⟩ | ⟨t, e1, h1, e⟩
  · exact ⟨env, T, _, s, h1, (fun _ _ z => nomatch z), fun c e z H' s' => by cases z; exact p σ H' s'⟩
  refine ⟨env, T, _, s, h1, fun t' e1' z => ?_, (fun _ _ z => nomatch z)⟩
  cases z
  unfold asB at e
  cases hr : raw e1 t with
  | none => rw [hr] at e; cases e
  | some d =>
    rw [hr] at e
    cases d <;> first | (cases e; done) | skip
    rename_i b
    refine ⟨b, rfl, fun H' s' => ?_⟩
    cases b with
    | true => exact iteT ⟨e1, T, r, s', e, p⟩
    | false => exact iteF ⟨e1, T, r, s', e, p⟩
theorem sS_ret {e : Expr} {pos : Pos} {ee : E} (he : PE X e (tE C W X.K H0 P0 ee)) : PS X (.Return (some e) pos) (tS C W X.K H0 P0 (.ret ee)) := (ps_ret he).imp fun D σ H ⟨env, T, r, s, ev, p⟩ => by
  rw [evS] at ev
  rcases sbnd_inv ev with ⟨c, e1, h1, rfl⟩ | ⟨t, e1, h1, ev⟩
  · exact ⟨env, T, _, s, h1, (fun _ _ z => nomatch z), fun c e z H' s' => by cases z; exact p σ H' s'⟩
  refine ⟨env, T, _, s, h1, fun t' e1' z v H1 s1 a1 => ?_, (fun _ _ z => nomatch z)⟩
  cases z
  cases t with
  | val d =>
    cases ev
    refine p v H1 ?_
    obtain ⟨fp, sp, rr, nn, dj, pp, sm⟩ := s1.sr
    cases rr with
    | cons r1 r2 =>
      rename_i f s2 fp sp
      exact ⟨f ++ [], s2 ++ [], .cons r1 .nil, by rw [List.append_nil]; exact (List.nodup_append.mp nn).1, fun a z => by
        rw [List.append_nil] at z
        have := dj a (List.mem_append_left _ z)
        exact ⟨fun z2 => this.1 (List.mem_append_left _ (by simpa using z2)), this.2⟩, fun a z => pp a (List.mem_append_left _ (by simpa using z)), sm⟩
  | bor j => cases ev
theorem sS_ex {e : Expr} {pos : Pos} {ee : E} (he : PE X e (tE C W X.K H0 P0 ee)) (hs : swapsWith e none pos.line X.env = pure false) : PS X (.Expr e pos) (tS C W X.K H0 P0 (.ex ee)) := (ps_expr he hs).imp fun D σ H ⟨env, T, r, s, ev, p⟩ => by
  rw [evS] at ev
  rcases sbnd_inv ev with ⟨c, e1, h1, rfl⟩ | ⟨t, e1, h1, ev⟩
  · exact ⟨env, T, _, s, h1, (fun _ _ z => nomatch z), fun c e z H' s' => by cases z; exact p σ H' s'⟩
  refine ⟨env, T, _, s, h1, fun t' e1' z v H1 s1 a1 => ?_, (fun _ _ z => nomatch z)⟩
  cases z
  cases ev
  exact p _ _ s1.pop1
theorem sS_brk {pos : Pos} : PS X (.Break pos) (tS C W X.K H0 P0 .brk) := ps_break.imp fun D σ H ⟨env, T, r, s, e, p⟩ => by
  rw [evS] at e; cases e; exact p σ H s
theorem sS_cnt {pos : Pos} : PS X (.Continue pos) (tS C W X.K H0 P0 .cnt) := ps_continue.imp fun D σ H ⟨env, T, r, s, e, p⟩ => by
  rw [evS] at e; cases e; exact p σ H s
theorem sS_pas {pos : Pos} : PS X (.Pass pos) (tS C W X.K H0 P0 .pas) := ps_pass.imp fun D σ H ⟨env, T, r, s, e, p⟩ => by
  rw [evS] at e; cases e; exact p σ H s

theorem whP_some {c : Env → Out Tm} {b : Env → Option SRes} {env : Env} {r : SRes} (h : whP c b env = some r) : ∃ n, whN c b n env = some r := by
  unfold whP at h
  split at h
  · exact ⟨_, h⟩
  · cases h
theorem sS_while (ok : SOk C X W) {c : Expr} {body : List Stmt} {pos : Pos} {ec : E} {sb : Ss} (hc : PT X c (tT C W X.K H0 P0 ec)) (hb : PSs X body (tSs C W X.K H0 P0 sb)) : PS X (.While c body [] pos) (tS C W X.K H0 P0 (.whl ec sb)) := (ps_while ok.po hc hb).imp fun D σ H ⟨env, T, r, s, e, p⟩ => by
  rw [evS] at e
  obtain ⟨n, hn⟩ := whP_some e
  refine ⟨fun m σ H => ∃ env, SR X.K H0 P0 env σ T H ∧ whN (evE C ec) (evSs C sb) m env = some r, ⟨n, env, s, hn⟩, ?_⟩
  rintro m σ H ⟨env, s, hm⟩
  cases m with
  | zero => cases hm
  | succ m =>
    rw [whN] at hm
    rcases sbnd_inv hm with ⟨c, e1, h1, rfl⟩ | ⟨t, e1, h1, hm⟩
    · exact ⟨env, T, _, s, h1, (fun _ _ z => nomatch z), fun c e z H' s' => by cases z; exact p σ H' s'⟩
    refine ⟨env, T, _, s, h1, fun t' e1' z => ?_, (fun _ _ z => nomatch z)⟩
    cases z
    unfold asB at hm
    cases hr : raw e1 t with
    | none => rw [hr] at hm; cases hm
    | some d =>
      rw [hr] at hm
      cases d <;> first | (cases hm; done) | skip
      rename_i b
      refine ⟨b, rfl, fun H' s' => ?_⟩
      cases b with
      | true =>
        refine iteT ⟨fun σ' H' => ∃ env, SR X.K H0 P0 env σ' T H' ∧ whN (evE C ec) (evSs C sb) m env = some r, fun σ' H' z => ⟨m, Nat.lt_succ_self m, z⟩, ?_⟩
        dsimp only at hm
        split at hm <;> first | (cases hm; done) | skip
        · next e2 he => exact ⟨e1, T, _, s', he, fun σ3 H3 s3 => ⟨e2, s3, hm⟩⟩
        · next e2 he => exact ⟨e1, T, _, s', he, fun σ3 H3 s3 => ⟨e2, s3, hm⟩⟩
        · next e2 he => cases hm; exact ⟨e1, T, _, s', he, p⟩
        · next d he => cases hm; exact ⟨e1, T, _, s', he, p⟩
        · next x e2 he => cases hm; exact ⟨e1, T, _, s', he, p⟩
      | false =>
        cases hm
        exact iteF (p _ _ s')
end
end TV
namespace TV
open PySem PySem.Spec PyProof.Rows L2
section
variable {C : Ctx} {W : Wish} {X : Cx} {H0 : Hp} {P0 : Addr → Prop}

/-- a list of the def's own is changed; what waits first may go into it -/
theorem SR.mut {K : PySem.W.Frag} {H : Hp} {env : Env} {σ : L2.St} {A T : List (D × V)} {i : Nat} {ds : List D} (h : SR K H0 P0 env σ (A ++ T) H) (e : env[i]? = some (.lst .ow ds)) :
    ∃ a us, σ[i]? = some (some (.ref a)) ∧ H a = some (.lst us) ∧ us.length = ds.length ∧ ∀ (us' : List V) (ds' : List D),
      (∀ f s fw sw, Reps K H us ds f s → Reps K H (A.map (·.2)) (A.map (·.1)) fw sw → (f ++ fw).Nodup → ∃ f' s', Reps K H us' ds' f' s' ∧ f'.Nodup ∧ (∀ b ∈ f', b ∈ f ++ fw) ∧ ∀ b ∈ s', b ∈ s ++ sw) →
      SR K H0 P0 (env.set i (.lst .ow ds')) σ T (L2.upd H a (.lst us')) := by
  obtain ⟨v, hv⟩ := h.has i _ e rfl
  obtain ⟨fp, sp, r, n, dj, p, sm⟩ := id h.sr
  rw [List.map_append, List.map_append, List.append_assoc, List.append_assoc] at r
  obtain ⟨va, vb, fw, fb, sw, sb, ev, rfl, rfl, rA, rB⟩ := Reps.split r
  obtain ⟨e1, e2⟩ := List.append_inj ev (by rw [rA.length]; simp)
  subst e1 e2
  obtain ⟨w, f0, s0, fr, sr, g1, q, p1, p2, k⟩ := Reps.set (i := T.length + i) rB (by rw [slot_get (j := 0)]; exact e)
  rw [slot_getV, svs_get hv e rfl] at g1
  cases g1
  cases q with
  | ow hh rr =>
    rename_i a us f
    have inF : ∀ b, b ∈ fw ∨ b = a ∨ b ∈ f ∨ b ∈ fr → b ∈ fw ++ fb := fun b z => by
      rcases z with z | z
      · exact List.mem_append_left _ z
      · refine List.mem_append_right _ (p1.mem_iff.mpr ?_)
        rcases z with rfl | z | z
        · exact List.mem_append_left _ List.mem_cons_self
        · exact List.mem_append_left _ (List.mem_cons_of_mem _ z)
        · exact List.mem_append_right _ z
    have inS : ∀ b, b ∈ sw ∨ b ∈ s0 ∨ b ∈ sr → b ∈ sw ++ sb := fun b z => by
      rcases z with z | z
      · exact List.mem_append_left _ z
      · exact List.mem_append_right _ (p2.mem_iff.mpr (List.mem_append.mpr z))
    have nn := List.nodup_append.mp n
    have nb := List.nodup_append.mp (p1.nodup_iff.mp nn.2.1)
    have nf := List.nodup_cons.mp nb.1
    have wb : ∀ b, b ∈ fw → b ≠ a ∧ b ∉ f ∧ b ∉ fr := fun b z => by
      refine ⟨fun e => ?_, fun z2 => ?_, fun z2 => ?_⟩
      · exact nn.2.2 b z a (p1.mem_iff.mpr (List.mem_append_left _ List.mem_cons_self)) e
      · exact nn.2.2 b z b (p1.mem_iff.mpr (List.mem_append_left _ (List.mem_cons_of_mem _ z2))) rfl
      · exact nn.2.2 b z b (p1.mem_iff.mpr (List.mem_append_right _ z2)) rfl
    refine ⟨a, us, hv, hh, rr.length, fun us' ds' hk => ?_⟩
    have nfw : (f ++ fw).Nodup := List.nodup_append.mpr ⟨nf.2, nn.1, fun b z c z2 e => (wb c z2).2.1 (e ▸ z)⟩
    obtain ⟨f', s', r', n', k1, k2⟩ := hk f s0 fw sw rr rA nfw
    have aF : a ∉ f' := fun z => (List.mem_append.mp (k1 a z)).elim nf.1 (fun z => (wb a z).1 rfl)
    have aS : ∀ b, b ∈ sw ∨ b ∈ s0 ∨ b ∈ sr → b ≠ a := fun b z e => (dj a (inF a (.inr (.inl rfl)))).1 (inS a (e ▸ z))
    have aS' : a ∉ s' := fun z => (List.mem_append.mp (k2 a z)).elim (fun z => aS a (.inr (.inl z)) rfl) (fun z => aS a (.inl z) rfl)
    obtain ⟨fq, sq, rq, q1, q2⟩ := k (.ref a) (.lst .ow ds') (a :: f') s' (L2.upd H a (.lst us'))
      (fun {v d f s} h1 h2 r => Rep.upd hh r (fun z => nb.2.2 a List.mem_cons_self a (h1 a z) rfl) (fun z => aS a (.inr (.inr (h2 a z))) rfl)) (.ow upd_same (Reps.upd hh r' aF aS'))
    rw [slot_set (by simp), slot_set (by simp), ← svs_same (d := .lst .ow ds') hv rfl] at rq
    have bigF : ∀ b, b ∈ fq → b ∈ fw ++ fb := fun b z => by
      rcases List.mem_append.mp (q1.mem_iff.mp z) with z | z
      · rcases List.mem_cons.mp z with rfl | z
        · exact inF _ (.inr (.inl rfl))
        · rcases List.mem_append.mp (k1 b z) with z | z
          · exact inF _ (.inr (.inr (.inl z)))
          · exact inF _ (.inl z)
      · exact inF _ (.inr (.inr (.inr z)))
    have bigS : ∀ b, b ∈ sq → b ∈ sw ++ sb := fun b z => by
      rcases List.mem_append.mp (q2.mem_iff.mp z) with z | z
      · rcases List.mem_append.mp (k2 b z) with z | z
        · exact inS _ (.inr (.inl z))
        · exact inS _ (.inl z)
      · exact inS _ (.inr (.inr z))
    refine ⟨by rw [List.length_set]; exact h.len, some_set h.has (fun _ => ⟨_, hv⟩), fq, sq, rq, ?_, fun b z => ⟨fun z2 => (dj b (bigF b z)).1 (bigS b z2), (dj b (bigF b z)).2⟩, fun b z => p b (bigS b z), fun b o eb => ?_⟩
    · refine q1.nodup_iff.mpr (List.nodup_append.mpr ⟨List.nodup_cons.mpr ⟨aF, n'⟩, nb.2.1, fun b z c z2 e => ?_⟩)
      subst e
      rcases List.mem_cons.mp z with rfl | z
      · exact nb.2.2 b List.mem_cons_self b z2 rfl
      · rcases List.mem_append.mp (k1 b z) with z | z
        · exact nb.2.2 b (List.mem_cons_of_mem _ z) b z2 rfl
        · exact (wb b z).2.2 z2
    · have hb : b ≠ a := fun z => by
        have := (dj a (inF a (.inr (.inl rfl)))).2
        rw [z, this] at eb; cases eb
      rw [upd_ne hb]
      exact sm b o eb

theorem Reps.get0 {K : PySem.W.Frag} {H : Hp} {us : List V} {ds : List D} {f s : List Addr} {j : Nat} {v : V} {d : D} {fv sv : List Addr} (r : Reps K H us ds f s) (hj : j < ds.length) (rv : Rep K H v d fv sv) (n : (f ++ (fv ++ [])).Nodup) :
    ∃ f' s', Reps K H (us.set j v) (ds.set j d) f' s' ∧ f'.Nodup ∧ (∀ b ∈ f', b ∈ f ++ (fv ++ [])) ∧ ∀ b ∈ s', b ∈ s ++ (sv ++ []) := by
  obtain ⟨d0, e0⟩ : ∃ d0, ds[j]? = some d0 := ⟨ds[j], by simp [hj]⟩
  obtain ⟨w, f0, s0, fr, sr, g1, q, p1, p2, k⟩ := Reps.set r e0
  obtain ⟨fq, sq, rq, q1, q2⟩ := k v d fv sv H (fun _ _ r => r) rv
  rw [List.append_nil] at n
  have n1 := List.nodup_append.mp n
  have n2 := List.nodup_append.mp (p1.nodup_iff.mp n1.1)
  refine ⟨fq, sq, rq, q1.nodup_iff.mpr (List.nodup_append.mpr ⟨n1.2.1, n2.2.1, fun b z c z2 e => n1.2.2 c (p1.mem_iff.mpr (List.mem_append_right _ z2)) b z e.symm⟩), fun b z => ?_, fun b z => ?_⟩
  · rw [List.append_nil]
    rcases List.mem_append.mp (q1.mem_iff.mp z) with z | z
    · exact List.mem_append_right _ z
    · exact List.mem_append_left _ (p1.mem_iff.mpr (List.mem_append_right _ z))
  · rw [List.append_nil]
    rcases List.mem_append.mp (q2.mem_iff.mp z) with z | z
    · exact List.mem_append_right _ z
    · exact List.mem_append_left _ (p2.mem_iff.mpr (List.mem_append_right _ z))

/-- x[k] = v, by values -/
theorem st_ok {K : PySem.W.Frag} {H : Hp} {env env' : Env} {σ : L2.St} {T : List (D × V)} {i : Nat} {t : Tm} {kv v : V} {d : D} {Q : Hp → Prop} (s : SR K H0 P0 env σ ((t.d, kv) :: (d, v) :: T) H) (a : t.at σ kv) (h : stIx i t d env = some env') :
    ∃ o, σ[i]? = some (some o) ∧ ((∀ H', SR K H0 P0 env' σ T H' → Q H') → rSetL o kv v H Q) := by
  unfold stIx at h
  split at h <;> first | (cases h; done) | skip
  next ds n hi hr =>
    split at h <;> first | (cases h; done) | skip
    next j hj =>
      cases h
      obtain ⟨_, _, r2⟩ := seen (U := []) s a hr rfl
      cases r2
      obtain ⟨p, us, hσ, hp, hl, k⟩ := SR.mut (A := [(d, v)]) s.pop1 hi
      refine ⟨_, hσ, fun q => ⟨p, us, n, j, rfl, rfl, hp, by rw [hl]; exact hj, q _ (k (us.set j v) (ds.set j d) fun f s' fw sw r rw_ nd => ?_)⟩⟩
      cases rw_ with
      | cons rv rn =>
        cases rn
        exact Reps.get0 r (ixN_seq hj).2.1 rv nd
theorem owAt_has {K : PySem.W.Frag} {H : Hp} {env : Env} {σ : L2.St} {T : List (D × V)} {i : Nat} (s : SR K H0 P0 env σ T H) (h : owAt i env = true) : ∃ o, σ[i]? = some (some o) := by
  unfold owAt at h
  split at h
  · next ds hi => exact s.has i _ hi rfl
  · cases h
theorem sS_set1 (ok : XOk C X W) {i : Nat} {x : Str} {k e : Expr} {p p2 pos : Pos} {ek ee : E} (hx : PE X (.Name x p) (tVar i)) (he : PE X e (tE C W X.K H0 P0 ee)) (hk : PE X k (tE C W X.K H0 P0 ek)) (hs : swapsWithSole [.Subscript (.Name x p) k p2] e pos.line X.env = pure false) (hw : swappedStores [.Subscript (.Name x p) k p2] e X.env = pure none)
    (hg : PG X (.Subscript (.Name x p) k p2) (gSub (tVar i) (tE C W X.K H0 P0 ek) rSetL)) : PS X (.Assign [.Subscript (.Name x p) k p2] e pos) (tS C W X.K H0 P0 (.set1 i ek ee)) := (ps_asg he hg hs hw).imp fun D σ H ⟨env, T, r, s, ev, p⟩ => by
  rw [evS] at ev
  rcases sbnd_inv ev with ⟨c, e1, h1, rfl⟩ | ⟨t, e1, h1, ev⟩
  · exact ⟨env, T, _, s, h1, (fun _ _ z => nomatch z), fun c e z H' s' => by cases z; exact p σ H' s'⟩
  refine ⟨env, T, _, s, h1, fun t' e1' z v1 H1 s1 a1 => ?_, (fun _ _ z => nomatch z)⟩
  cases z
  cases t with
  | bor j => cases ev
  | val d =>
    dsimp only at ev
    split at ev
    · cases ev
    next how =>
    have how : owAt i e1 = true := by simpa using how
    obtain ⟨o, ho⟩ := owAt_has s1 how
    refine ⟨o, ho, ?_⟩
    rcases sbnd_inv ev with ⟨c, e2, h2, rfl⟩ | ⟨t2, e2, h2, ev⟩
    · exact ⟨_, _, _, s1, h2, (fun _ _ z => nomatch z), fun c e z H' s' => by cases z; exact p σ H' s'.pop1⟩
    refine ⟨_, _, _, s1, h2, fun t' e2' z v2 H2 s2 a2 => ?_, (fun _ _ z => nomatch z)⟩
    cases z
    split at ev <;> first | (cases ev; done) | skip
    next e3 hst =>
      cases ev
      obtain ⟨o', ho', q⟩ := st_ok (Q := fun H3 => D.nx σ H3) s2 a2 hst
      rw [ho] at ho'
      cases ho'
      exact q fun H' s' => p σ H' s'
theorem sS_swp (ok : XOk C X W) {i : Nat} {x : Str} {k1 k2 v1 v2 : Expr} {kt ke : Nat} {p q p1 p2 pt pe pos : Pos} {a b c d : E} (hx : PE X (.Name x p) (tVar i)) (hx2 : PE X (.Name x q) (tVar i)) (hv1 : PE X v1 (tE C W X.K H0 P0 c)) (hv2 : PE X v2 (tE C W X.K H0 P0 d)) (n1 : notStar v1 = true) (n2 : notStar v2 = true)
    (hs : swapsWithSole [.Tuple [.Subscript (.Name x p) k1 p1, .Subscript (.Name x q) k2 p2] kt pt] (.Tuple [v1, v2] ke pe) pos.line X.env = pure false) (hw : swappedStores [.Tuple [.Subscript (.Name x p) k1 p1, .Subscript (.Name x q) k2 p2] kt pt] (.Tuple [v1, v2] ke pe) X.env = pure none)
    (hg : PG X (.Tuple [.Subscript (.Name x p) k1 p1, .Subscript (.Name x q) k2 p2] kt pt) (gTup X.K 2 (gCons (gSub (tVar i) (tE C W X.K H0 P0 a) rSetL) (gCons (gSub (tVar i) (tE C W X.K H0 P0 b) rSetL) gNil)))) :
    PS X (.Assign [.Tuple [.Subscript (.Name x p) k1 p1, .Subscript (.Name x q) k2 p2] kt pt] (.Tuple [v1, v2] ke pe) pos) (tS C W X.K H0 P0 (.swp i a b c d)) :=
  (ps_asg (pe_tup (pa_cons hv1 (pa_cons hv2 pa_nil (star_cons n2)) (star_cons n1))) hg hs hw).imp fun D σ H ⟨env, T, r, s, ev, p⟩ => by
  rw [evS] at ev
  rcases sbnd_inv ev with ⟨c, e1, h1, rfl⟩ | ⟨t1, e1, h1, ev⟩
  · exact ⟨env, T, _, s, h1, (fun _ _ z => nomatch z), fun c e z H' s' => by cases z; exact p σ H' s'⟩
  refine ⟨env, T, _, s, h1, fun t' e1' z w1 H1 s1 a1 => ?_, (fun _ _ z => nomatch z)⟩
  cases z
  rcases sbnd_inv ev with ⟨c, e2, h2, rfl⟩ | ⟨t2, e2, h2, ev⟩
  · exact ⟨_, _, _, s1, h2, (fun _ _ z => nomatch z), fun c e z H' s' => by cases z; exact p σ H' s'.pop1⟩
  refine ⟨_, _, _, s1, h2, fun t' e2' z w2 H2 s2 a2 => ?_, (fun _ _ z => nomatch z)⟩
  cases z
  obtain ⟨x1, rfl⟩ : ∃ x1, t1 = .val x1 := by
    cases t1 with
    | val d => exact ⟨d, rfl⟩
    | bor _ => cases t2 <;> cases ev
  obtain ⟨x2, rfl⟩ : ∃ x2, t2 = .val x2 := by
    cases t2 with
    | val d => exact ⟨d, rfl⟩
    | bor _ => cases ev
  dsimp only at ev
  split at ev
  · cases ev
  next how =>
  have how : owAt i e2 = true := by simpa using how
  refine ⟨by show 2 ≤ sizeLine; decide, fun pp hp => ?_⟩
  have s3 : SR X.K H0 P0 e2 σ ((x1, w1) :: (x2, w2) :: T) (L2.upd H2 pp (.tup [w1, w2])) :=
    SR.step (W := [(x2, w2), (x1, w1)]) (W' := [(x1, w1), (x2, w2)]) s2 (same_new hp) fun fa sa r n dj => by
      cases r with
      | cons r1 r2 =>
        cases r2 with
        | cons r2 r3 =>
          cases r3
          rename_i f1 g1 f2 g2
          rw [List.append_nil] at n dj
          have pm : (f1 ++ f2).Perm (f2 ++ f1) := List.perm_append_comm
          refine ⟨f2 ++ (f1 ++ []), g2 ++ (g1 ++ []), .cons (Rep.same (same_new hp) r2) (.cons (Rep.same (same_new hp) r1) .nil), by rw [List.append_nil]; exact pm.nodup_iff.mp n, fun b z z2 => ?_, fun b z => .inl ?_, fun b z => .inl ?_⟩
          · rw [List.append_nil] at z z2
            refine dj b (pm.mem_iff.mpr z) ?_
            rw [List.append_nil]
            exact List.mem_append.mpr (List.mem_append.mp z2).symm
          · rw [List.append_nil] at z ⊢; exact pm.mem_iff.mpr z
          · rw [List.append_nil] at z ⊢; exact List.mem_append.mpr (List.mem_append.mp z).symm
  refine ⟨pp, [w1, w2], rfl, SqT.of upd_same, rfl, w1, [w2], rfl, ?_⟩
  obtain ⟨o, ho⟩ := owAt_has s3 how
  refine ⟨o, ho, ?_⟩
  rcases sbnd_inv ev with ⟨c, e3, h3, rfl⟩ | ⟨t3, e3, h3, ev⟩
  · exact ⟨_, _, _, s3, h3, (fun _ _ z => nomatch z), fun c e z H' s' => by cases z; exact p σ H' s'.pop1.pop1⟩
  refine ⟨_, _, _, s3, h3, fun t' e3' z w3 H3 s4 a3 => ?_, (fun _ _ z => nomatch z)⟩
  cases z
  split at ev <;> first | (cases ev; done) | skip
  next e4 hst =>
  obtain ⟨o', ho', q⟩ := st_ok (T := (x2, w2) :: T) (Q := fun H3 => gCons (gSub (tVar i) (tE C W X.K H0 P0 b) rSetL) gNil [w2] σ H3 D.nx) s4 a3 hst
  rw [ho] at ho'
  cases ho'
  refine q fun H4 s5 => ⟨w2, [], rfl, ?_⟩
  split at ev
  · cases ev
  next how =>
  have how : owAt i e4 = true := by simpa using how
  refine ⟨o, ho, ?_⟩
  rcases sbnd_inv ev with ⟨c, e5, h5, rfl⟩ | ⟨t4, e5, h5, ev⟩
  · exact ⟨_, _, _, s5, h5, (fun _ _ z => nomatch z), fun c e z H' s' => by cases z; exact p σ H' s'.pop1⟩
  refine ⟨_, _, _, s5, h5, fun t' e5' z w4 H5 s6 a4 => ?_, (fun _ _ z => nomatch z)⟩
  cases z
  split at ev <;> first | (cases ev; done) | skip
  next e6 hst2 =>
  cases ev
  obtain ⟨o', ho', q⟩ := st_ok (Q := fun H3 => gNil [] σ H3 D.nx) s6 a4 hst2
  rw [ho] at ho'
  cases ho'
  exact q fun H' s' => ⟨rfl, p σ H' s'⟩
theorem sS_par (ok : XOk C X W) {i j : Nat} {x y : Str} {a b : Expr} {px py pt pos : Pos} {kt k2 : Nat} {pt2 : Pos} {ea eb : E} (hi : X.N[i]? = some x) (hj : X.N[j]? = some y) (hij : i ≠ j) (hx : X.env.scope.names.lookup x = some .local) (hy : X.env.scope.names.lookup y = some .local)
    (ha : PE X a (tE C W X.K H0 P0 ea)) (hb : PE X b (tE C W X.K H0 P0 eb)) (n1 : notStar a = true) (n2 : notStar b = true)
    (hw : swappedStores [.Tuple [.Name x px, .Name y py] kt pt] (.Tuple [a, b] k2 pt2) X.env = pure (some [x, y])) (hs : swapsWithSole [.Tuple [.Name x px, .Name y py] kt pt] (.Tuple [a, b] k2 pt2) pos.line X.env = pure false) :
    PS X (.Assign [.Tuple [.Name x px, .Name y py] kt pt] (.Tuple [a, b] k2 pt2) pos) (tS C W X.K H0 P0 (.par i j ea eb)) :=
  (ps_par ok.calm ok.nd hi hj hij hx hy (pa_cons ha (pa_cons hb pa_nil (star_cons n2)) (star_cons n1)) hw hs).impI fun D σ H hl ⟨env, T, r, s, ev, p⟩ => by
  rw [evS] at ev
  rcases sbnd_inv ev with ⟨c, e1, h1, rfl⟩ | ⟨t1, e1, h1, ev⟩
  · exact ⟨env, T, _, s, h1, (fun _ _ z => nomatch z), fun c e z H' s' => by cases z; exact p σ H' s'⟩
  refine ⟨env, T, _, s, h1, fun t' e1' z w1 H1 s1 a1 => ?_, (fun _ _ z => nomatch z)⟩
  cases z
  rcases sbnd_inv ev with ⟨c, e2, h2, rfl⟩ | ⟨t2, e2, h2, ev⟩
  · exact ⟨_, _, _, s1, h2, (fun _ _ z => nomatch z), fun c e z H' s' => by cases z; exact p σ H' s'.pop1⟩
  refine ⟨_, _, _, s1, h2, fun t' e2' z w2 H2 s2 a2 => ?_, (fun _ _ z => nomatch z)⟩
  cases z
  obtain ⟨x1, rfl⟩ : ∃ x1, t1 = .val x1 := by
    cases t1 with
    | val d => exact ⟨d, rfl⟩
    | bor _ => cases t2 <;> cases ev
  obtain ⟨x2, rfl⟩ : ∃ x2, t2 = .val x2 := by
    cases t2 with
    | val d => exact ⟨d, rfl⟩
    | bor _ => cases ev
  cases ev
  refine ⟨w1, w2, rfl, p _ _ ?_⟩
  have s3 : SR X.K H0 P0 e2 σ ((x1, w1) :: (x2, w2) :: T) H2 := SR.roll (A := [(x2, w2)]) s2
  exact s3.asg.asg
theorem sS_aug (ok : XOk C X W) {i : Nat} {x : Str} {e : Expr} {op : Operator} {pos pos' : Pos} {ee : E} (hop : op = .Add ∨ op = .Sub) (hi : X.N[i]? = some x) (hx : Loc X.env.scope x) (hf : X.fn x = true ∨ X.env.scope.names.lookup x = some .local) (he : PE X e (tE C W X.K H0 P0 ee)) :
    PS X (.AugAssign (.Name x pos') op e pos) (tS C W X.K H0 P0 (.aug i op ee)) := by
  have core : ∀ (g : Int → Int → Int), (op = .Add → g = fun i j => i + j) → (op = .Sub → g = fun i j => i - j) → ∀ D σ H, σ.length = X.N.length → tS C W X.K H0 P0 (.aug i op ee) D σ H → tAug i (tE C W X.K H0 P0 ee) (ipI g) D σ H := by
    intro g ga gs D σ H hl ⟨env, T, r, s, ev, p⟩
    rw [evS] at ev
    split at ev <;> first | (cases ev; done) | skip
    next n hn =>
      obtain ⟨v, f, s', hv, rv⟩ := s.slot hn rfl
      cases rv
      refine ⟨_, hv, ?_⟩
      rcases sbnd_inv ev with ⟨c, e1, h1, rfl⟩ | ⟨t1, e1, h1, ev⟩
      · exact ⟨env, T, _, s, h1, (fun _ _ z => nomatch z), fun c e z H' s' => by cases z; exact p σ H' s'⟩
      refine ⟨env, T, _, s, h1, fun t' e1' z w1 H1 s1 a1 => ?_, (fun _ _ z => nomatch z)⟩
      cases z
      split at ev <;> first | (cases ev; done) | skip
      · rename_i m hr _
        cases ev
        obtain ⟨_, _, r1⟩ := seen (U := []) s1 a1 hr rfl
        cases r1
        rw [ga rfl]
        exact ⟨n, m, rfl, rfl, p _ _ ((s1.pop1.put (.int _)).asg)⟩
      · rename_i m hr _
        cases ev
        obtain ⟨_, _, r1⟩ := seen (U := []) s1 a1 hr rfl
        cases r1
        rw [gs rfl]
        exact ⟨n, m, rfl, rfl, p _ _ ((s1.pop1.put (.int _)).asg)⟩
  rcases hop with rfl | rfl
  · exact (ps_aug ok.nd hi hx he ip_add hf).impI (core _ (fun _ => rfl) (fun z => by cases z))
  · exact (ps_aug ok.nd hi hx he ip_sub hf).impI (core _ (fun z => by cases z) (fun _ => rfl))

theorem sS_rse (ok : XOk C X W) {x m : Str} {j : Nat} {p p2 pos rpos : Pos} (hx : C.exc x x = true) (hg : Gl X x) (hdb : (x == ("__debug__" : Str)) = false) : PS X (.Raise (some (.Call (.Name x p) [.Constant (.str m) j p2] [] pos)) none rpos) (tS C W X.K H0 P0 (.rse x)) := by
  obtain ⟨a, hm, hk, hq, hsub, hty⟩ := ok.rse x hx
  refine (ps_raise ok.calm ok.tk (pmk_own PySem.F.excBase_ValueError hq hm hk (raises_own hsub hty) hg hdb)).imp fun D σ H ⟨env, T, r, s, ev, pp⟩ => ?_
  rw [evS] at ev
  cases ev
  exact ⟨rfl, x, a, rfl, hm, pp σ H s⟩
end
end TV
namespace TV
open PySem PySem.Spec PyProof.Rows L2
section
variable {C : Ctx} {W : Wish} {X : Cx} {H0 : Hp} {P0 : Addr → Prop}

/-- the walker J yields the items, while the held things wait -/
def Walks (K : PySem.W.Frag) (H0 : Hp) (P0 : Addr → Prop) (J : It) (held : List (D × V)) (items : List D) : Prop :=
  ∀ (env : Env) (σ : L2.St) (T : List (D × V)) (H : Hp) (i : Nat), SR K H0 P0 env σ (held ++ T) H →
    (∀ d, items[i]? = some d → J.go i H ∧ ∀ x H', J.yld i H x H' → SR K H0 P0 env σ ((d, x) :: (held ++ T)) H') ∧ (items.length ≤ i → J.stop i H)
def tI (C : Ctx) (W : Wish) (K : PySem.W.Frag) (H0 : Hp) (P0 : Addr → Prop) (it : Itr) : TI := fun σ H R => ∃ env T r, SR K H0 P0 env σ T H ∧ evIt C it env = some r ∧
  (∀ p env', r = .ok p env' → ∀ J hs H', hs.length = p.1.length → SR K H0 P0 env' σ (p.1.zip hs ++ T) H' → Walks K H0 P0 J (p.1.zip hs) p.2 → (∀ i, it.bk = some i → ∃ v, hs = [v] ∧ σ[i]? = some (some v)) → R J H') ∧ (∀ c env', r = .ex c env' → ∀ H', SR K H0 P0 env' σ T H' → W c σ H')
theorem _root_.L2.PI.imp {tg e : Expr} {t t' : TI} (h : PI X tg e t) (k : ∀ σ H R, t' σ H R → t σ H R) : PI X tg e t' := ⟨fun pins s σ H R I hq => h.run pins s σ H R I (k σ H R hq)⟩

/-- one of a held list's things -/
theorem held_at {K : PySem.W.Frag} {H : Hp} {env : Env} {σ : L2.St} {T : List (D × V)} {j : Nat} {k : LK} {ds : List D} {v : V} (h : SR K H0 P0 env σ T H) (ej : T[j]? = some (.lst k ds, v)) (hn : noOwL ds = true) :
    ∃ a us, v = .ref a ∧ SqL K H a us ∧ us.length = ds.length ∧ ∀ (i : Nat) (d : D), ds[i]? = some d → ∃ x, us[i]? = some x ∧ SR K H0 P0 env σ ((d, x) :: T) H := by
  obtain ⟨us, s2, l2, kd⟩ := SR.kids (t := .val (.lst k ds)) h ej trivial rfl (x := .lst k ds) rfl hn
  obtain ⟨a, rfl, hq⟩ := kid_sq kd
  have l2' : us.length = ds.length := l2
  refine ⟨a, us, rfl, hq, l2', fun i d hd => ?_⟩
  obtain ⟨fa, sa, r, n, dj, kk⟩ := SR.openFront (A := ds.zip us) (T := T) s2
  rw [zip_fst l2', zip_snd l2'] at r
  obtain ⟨x, f, s, fr, sr, e1, q, p1, p2⟩ := Reps.get r hd
  refine ⟨x, e1, kk H [(d, x)] (f ++ []) (s ++ []) (Same.refl H) (.cons q .nil) ?_ (fun a z z2 => ?_) (fun a z => .inl ?_) (fun a z => .inl ?_)⟩
  · rw [List.append_nil]; exact (List.nodup_append.mp (p1.nodup_iff.mp n)).1
  · rw [List.append_nil] at z z2
    exact dj a (p1.mem_iff.mpr (List.mem_append_left _ z)) (p2.mem_iff.mpr (List.mem_append_left _ z2))
  · rw [List.append_nil] at z; exact p1.mem_iff.mpr (List.mem_append_left _ z)
  · rw [List.append_nil] at z; exact p2.mem_iff.mpr (List.mem_append_left _ z)
/-- one of a held tuple's things -/
theorem held_atT {K : PySem.W.Frag} {H : Hp} {env : Env} {σ : L2.St} {T : List (D × V)} {j : Nat} {ds : List D} {v : V} (h : SR K H0 P0 env σ T H) (ej : T[j]? = some (.tup ds, v)) (hn : noOwL ds = true) :
    ∃ a us, v = .ref a ∧ SqT K H a us ∧ us.length = ds.length ∧ ∀ (i : Nat) (d : D), ds[i]? = some d → ∃ x, us[i]? = some x ∧ SR K H0 P0 env σ ((d, x) :: T) H := by
  obtain ⟨us, s2, l2, a, rfl, kd⟩ := SR.kids (t := .val (.tup ds)) h ej trivial rfl (x := .tup ds) rfl hn
  have hq : SqT K H a us := by
    rcases kd with ⟨_, e, h⟩ | ⟨_, e, h⟩ | ⟨_, e, h⟩ | ⟨_, e, h⟩
    · exact h
    · cases e
    · cases e
    · cases e
  have l2' : us.length = ds.length := l2
  refine ⟨a, us, rfl, hq, l2', fun i d hd => ?_⟩
  obtain ⟨fa, sa, r, n, dj, kk⟩ := SR.openFront (A := ds.zip us) (T := T) s2
  rw [zip_fst l2', zip_snd l2'] at r
  obtain ⟨x, f, s, fr, sr, e1, q, p1, p2⟩ := Reps.get r hd
  refine ⟨x, e1, kk H [(d, x)] (f ++ []) (s ++ []) (Same.refl H) (.cons q .nil) ?_ (fun a z z2 => ?_) (fun a z => .inl ?_) (fun a z => .inl ?_)⟩
  · rw [List.append_nil]; exact (List.nodup_append.mp (p1.nodup_iff.mp n)).1
  · rw [List.append_nil] at z z2
    exact dj a (p1.mem_iff.mpr (List.mem_append_left _ z)) (p2.mem_iff.mpr (List.mem_append_left _ z2))
  · rw [List.append_nil] at z; exact p1.mem_iff.mpr (List.mem_append_left _ z)
  · rw [List.append_nil] at z; exact p2.mem_iff.mpr (List.mem_append_left _ z)
theorem lt_of_get {α : Type} {l : List α} {i : Nat} {a : α} (h : l[i]? = some a) : i < l.length := (List.getElem?_eq_some_iff.mp h).1
theorem walks_list {K : PySem.W.Frag} {k : LK} {ds : List D} {a : Addr} (hn : noOwL ds = true) : Walks K H0 P0 (Itl K a) [(.lst k ds, .ref a)] ds := fun env σ T H i s => by
  obtain ⟨a', us, e, hq, hl, g⟩ := held_at (j := 0) s rfl hn
  cases e
  refine ⟨fun d hd => ?_, fun h => ⟨us, hq, by omega⟩⟩
  obtain ⟨x, hx, s'⟩ := g i d hd
  refine ⟨⟨us, x, hq, hx⟩, fun y H' ⟨e, hy⟩ => ?_⟩
  subst e
  have := hy us hq
  rw [hx] at this
  cases this
  exact s'
theorem walks_tup {K : PySem.W.Frag} {ds : List D} {a : Addr} (hn : noOwL ds = true) : Walks K H0 P0 (Itt K a) [(.tup ds, .ref a)] ds := fun env σ T H i s => by
  obtain ⟨a', us, e, hq, hl, g⟩ := held_atT (j := 0) s rfl hn
  cases e
  refine ⟨fun d hd => ?_, fun h => ⟨us, hq, by omega⟩⟩
  obtain ⟨x, hx, s'⟩ := g i d hd
  refine ⟨⟨us, x, hq, hx⟩, fun y H' ⟨e, hy⟩ => ?_⟩
  subst e
  have := hy us hq
  rw [hx] at this
  cases this
  exact s'
theorem walks_rev {K : PySem.W.Frag} {k : LK} {ds : List D} {a : Addr} (hn : noOwL ds = true) : Walks K H0 P0 (Itv K a ds.length) [(.lst k ds, .ref a)] ds.reverse := fun env σ T H i s => by
  obtain ⟨a', us, e, hq, hl, g⟩ := held_at (j := 0) s rfl hn
  cases e
  refine ⟨fun d hd => ?_, fun h => by rw [List.length_reverse] at h; exact h⟩
  have hi : i < ds.length := by have := lt_of_get hd; rwa [List.length_reverse] at this
  rw [List.getElem?_reverse hi] at hd
  obtain ⟨x, hx, s'⟩ := g _ d hd
  refine ⟨⟨hi, us, x, hq, hx⟩, fun y H' ⟨e, hy⟩ => ?_⟩
  subst e
  have := hy us hq
  rw [hx] at this
  cases this
  exact s'
theorem walks_rg {K : PySem.W.Frag} {lo : Int} {n : Nat} : Walks K H0 P0 (L2.Itr lo n) [] (rgD lo n 1) := fun env σ T H i s => by
  refine ⟨fun d hd => ?_, fun h => by have h' : n ≤ i := (by simpa [rgD] using h); exact h'⟩
  unfold rgD at hd
  rw [List.getElem?_map] at hd
  cases hr : (List.range n)[i]? with
  | none => rw [hr] at hd; cases hd
  | some k =>
    rw [hr] at hd
    have hi : i < n := by have := lt_of_get hr; simpa using this
    have hk : k = i := by rw [List.getElem?_range hi] at hr; exact (Option.some.inj hr).symm
    subst hk
    cases hd
    refine ⟨hi, fun y H' ⟨e, hy⟩ => ?_⟩
    subst e hy
    exact s.put (by show Rep _ _ _ (D.int (lo + (k : Int) * 1)) _ _; rw [Int.mul_one]; exact .int _)
theorem walks_rgC {K : PySem.W.Frag} {lo c : Int} {n : Nat} : Walks K H0 P0 (Itc lo c n) [] (rgD lo n c) := fun env σ T H i s => by
  refine ⟨fun d hd => ?_, fun h => by have h' : n ≤ i := (by simpa [rgD] using h); exact h'⟩
  unfold rgD at hd
  rw [List.getElem?_map] at hd
  cases hr : (List.range n)[i]? with
  | none => rw [hr] at hd; cases hd
  | some k =>
    rw [hr] at hd
    have hi : i < n := by have := lt_of_get hr; simpa using this
    have hk : k = i := by rw [List.getElem?_range hi] at hr; exact (Option.some.inj hr).symm
    subst hk
    cases hd
    refine ⟨hi, fun y H' ⟨e, hy⟩ => ?_⟩
    subst e hy
    exact s.put (.int _)
theorem zip2_get : ∀ {a b : List D} {i : Nat} {d : D}, (zip2D a b)[i]? = some d → ∃ x y, a[i]? = some x ∧ b[i]? = some y ∧ d = .tup [x, y]
  | [], _, i, d, h => by simp [zip2D] at h
  | _ :: _, [], i, d, h => by simp [zip2D] at h
  | x :: a, y :: b, 0, d, h => ⟨x, y, rfl, rfl, by simpa [zip2D] using h.symm⟩
  | x :: a, y :: b, i + 1, d, h => by
    obtain ⟨x', y', h1, h2, h3⟩ := zip2_get (a := a) (b := b) (i := i) (by simpa [zip2D] using h)
    exact ⟨x', y', by simpa using h1, by simpa using h2, h3⟩
theorem zip2_len : ∀ {a b : List D} {i : Nat}, (zip2D a b).length ≤ i → a.length ≤ i ∨ b.length ≤ i
  | [], _, i, h => .inl (Nat.zero_le _)
  | _ :: _, [], i, h => .inr (Nat.zero_le _)
  | x :: a, y :: b, 0, h => by simp [zip2D] at h
  | x :: a, y :: b, i + 1, h => by
    have := zip2_len (a := a) (b := b) (i := i) (by simpa [zip2D] using h)
    simpa using this
theorem walks_zip {K : PySem.W.Frag} {k1 k2 : LK} {ds es : List D} {a b : Addr} (hn : noOwL ds = true) (hn2 : noOwL es = true) : Walks K H0 P0 (Itz K a b) [(.lst k1 ds, .ref a), (.lst k2 es, .ref b)] (zip2D ds es) := fun env σ T H i s => by
  obtain ⟨a', us, e, hq, hl, g⟩ := held_at (j := 0) s rfl hn
  obtain ⟨b', ws, e2, hq2, hl2, _⟩ := held_at (j := 1) s rfl hn2
  cases e
  cases e2
  refine ⟨fun d hd => ?_, fun h => ⟨us, ws, hq, hq2, ?_⟩⟩
  · obtain ⟨x, y, h1, h2, rfl⟩ := zip2_get hd
    obtain ⟨u, hu, s'⟩ := g i x h1
    obtain ⟨b', ws', e2, hq2', hl2', g2⟩ := held_at (j := 2) s' rfl hn2
    cases e2
    obtain ⟨w, hw, s''⟩ := g2 i y h2
    refine ⟨⟨us, ws', u, w, hq, hq2', hu, hw⟩, fun z H' ⟨p, x', y', e3, hp, e4, h3, h4⟩ => ?_⟩
    subst e3 e4
    have q1 := h3 us hq
    rw [hu] at q1
    cases q1
    have q2 := h4 ws' hq2'
    rw [hw] at q2
    cases q2
    exact SR.newT (U := [(x, u), (y, w)]) (SR.roll (A := [(y, w)]) s'') hp
  · rcases zip2_len h with z | z
    · exact .inl (by omega)
    · exact .inr (by omega)
theorem enum_get : ∀ {ds : List D} {n i : Nat} {d : D}, (enumD n ds)[i]? = some d → ∃ x, ds[i]? = some x ∧ d = .tup [.int ((n + i : Nat) : Int), x]
  | [], n, i, d, h => by simp [enumD] at h
  | x :: ds, n, 0, d, h => ⟨x, rfl, by simpa [enumD] using h.symm⟩
  | x :: ds, n, i + 1, d, h => by
    obtain ⟨x', h1, h2⟩ := enum_get (ds := ds) (n := n + 1) (i := i) (by simpa [enumD] using h)
    exact ⟨x', by simpa using h1, by rw [h2]; congr 3; congr 1; omega⟩
theorem enum_len : ∀ (ds : List D) (n : Nat), (enumD n ds).length = ds.length
  | [], _ => rfl
  | d :: ds, n => by rw [enumD, List.length_cons, List.length_cons, enum_len ds]
theorem walks_enum {K : PySem.W.Frag} {k : LK} {ds : List D} {a : Addr} (hn : noOwL ds = true) : Walks K H0 P0 (Ite K a) [(.lst k ds, .ref a)] (enumD 0 ds) := fun env σ T H i s => by
  obtain ⟨a', us, e, hq, hl, g⟩ := held_at (j := 0) s rfl hn
  cases e
  refine ⟨fun d hd => ?_, fun h => ⟨us, hq, by rw [enum_len] at h; omega⟩⟩
  obtain ⟨x, h1, rfl⟩ := enum_get hd
  obtain ⟨u, hu, s'⟩ := g i x h1
  refine ⟨⟨us, u, hq, hu⟩, fun z H' ⟨p, x', e3, hp, e4, h3⟩ => ?_⟩
  subst e3 e4
  have q1 := h3 us hq
  rw [hu] at q1
  cases q1
  have := SR.newT (U := [(.int ((0 + i : Nat) : Int), .int ((0 + i : Nat) : Int)), (x, u)]) (SR.put s' (.int _)) hp
  simpa using this
theorem walks_str {K : PySem.W.Frag} {x : Str} : Walks K H0 P0 (Its x) [] (x.cps.toList.map fun c => .str ⟨#[c]⟩) := fun env σ T H i s => by
  refine ⟨fun d hd => ?_, fun h => by have h' : x.cps.size ≤ i := (by simpa using h); exact h'⟩
  rw [List.getElem?_map] at hd
  cases hr : x.cps.toList[i]? with
  | none => rw [hr] at hd; cases hd
  | some c =>
    rw [hr] at hd
    cases hd
    have hi : i < x.cps.size := by have := lt_of_get hr; simpa using this
    refine ⟨hi, fun y H' ⟨e, c', hc, hy⟩ => ?_⟩
    subst e hy
    have : c = c' := by
      rw [Array.getElem?_toList] at hr
      rw [hr] at hc
      exact Option.some.inj hc
    subst this
    exact s.put (.str _)

theorem sI_list {e tg : Expr} {ee : E} (he : PE X e (tE C W X.K H0 P0 ee)) : PI X tg e (tI C W X.K H0 P0 (.list ee)) := (pi_list he).imp fun σ H R ⟨env, T, r, s, ev, q, qx⟩ => by
  rw [evIt] at ev
  rcases bnd_inv ev with ⟨c, e1, h1, rfl⟩ | ⟨t, e1, h1, ev⟩
  · exact ⟨env, T, _, s, h1, (fun _ _ z => nomatch z), fun c e z H' s' => by cases z; exact qx _ _ rfl H' s'⟩
  refine ⟨env, T, _, s, h1, fun t' e1' z v1 H1 s1 a1 => ?_, (fun _ _ z => nomatch z)⟩
  cases z
  split at ev <;> first | (cases ev; done) | skip
  next k ds =>
    split at ev
    · next hn =>
      cases ev
      obtain ⟨_, _, rr, _⟩ := s1.rep
      obtain ⟨a, us, _, _, rfl, hq, _⟩ := rep_lst rr
      exact ⟨a, rfl, ⟨us, hq⟩, q _ _ rfl (Itl X.K a) [.ref a] H1 rfl s1 (walks_list hn) (fun _ z => nomatch z)⟩
    · cases ev
theorem sI_brw {x : Str} {p : Pos} {tg : Expr} {i : Nat} (he : PE X (.Name x p) (tVar i)) : PI X tg (.Name x p) (tI C W X.K H0 P0 (.brw i)) := (pi_list he).imp fun σ H R ⟨env, T, r, s, ev, q, qx⟩ => by
  rw [evIt] at ev
  cases ed : env[i]? with
  | none => rw [ed] at ev; cases ev
  | some d =>
    rw [ed] at ev
    split at ev <;> first | (cases ev; done) | skip
    next ds hd =>
      cases hd
      split at ev
      · next hn =>
        cases ev
        obtain ⟨v, hv, s2⟩ := s.mv ed rfl
        obtain ⟨_, _, rr, _⟩ := s2.rep
        obtain ⟨a, us, _, _, rfl, hq, _⟩ := rep_lst rr
        exact ⟨.ref a, hv, a, rfl, ⟨us, hq⟩, q _ _ rfl (Itl X.K a) [.ref a] H rfl s2 (walks_list hn) fun j z => by cases z; exact ⟨_, rfl, hv⟩⟩
      · cases ev
theorem sI_tupi {e tg : Expr} {ee : E} (he : PE X e (tE C W X.K H0 P0 ee)) : PI X tg e (tI C W X.K H0 P0 (.tupi ee)) := (pi_tup he).imp fun σ H R ⟨env, T, r, s, ev, q, qx⟩ => by
  rw [evIt] at ev
  rcases bnd_inv ev with ⟨c, e1, h1, rfl⟩ | ⟨t, e1, h1, ev⟩
  · exact ⟨env, T, _, s, h1, (fun _ _ z => nomatch z), fun c e z H' s' => by cases z; exact qx _ _ rfl H' s'⟩
  refine ⟨env, T, _, s, h1, fun t' e1' z v1 H1 s1 a1 => ?_, (fun _ _ z => nomatch z)⟩
  cases z
  split at ev <;> first | (cases ev; done) | skip
  next ds =>
    split at ev
    · next hn =>
      cases ev
      obtain ⟨a, us, rfl, hq, _⟩ := held_atT (j := 0) s1 rfl hn
      exact ⟨a, rfl, ⟨us, hq⟩, q _ _ rfl (Itt X.K a) [.ref a] H1 rfl s1 (walks_tup hn) (fun _ z => nomatch z)⟩
    · cases ev
theorem sI_rev (ok : XOk C X W) {e tg : Expr} {p pos : Pos} {ee : E} (he : PE X e (tE C W X.K H0 P0 ee)) (hst : notStar e = true) (hg : Gl X "reversed") : PI X tg (.Call (.Name "reversed" p) [e] [] pos) (tI C W X.K H0 P0 (.rev ee)) :=
  (pi_reversed hg (ok.bi _ (by decide)) (pa_cons he pa_nil (star_cons hst)) (star_cons hst)).imp fun σ H R ⟨env, T, r, s, ev, q, qx⟩ => by
  rw [evIt] at ev
  rcases bnd_inv ev with ⟨c, e1, h1, rfl⟩ | ⟨t, e1, h1, ev⟩
  · exact ⟨env, T, _, s, h1, (fun _ _ z => nomatch z), fun c e z H' s' => by cases z; exact qx _ _ rfl H' s'⟩
  refine ⟨env, T, _, s, h1, fun t' e1' z v1 H1 s1 a1 => ?_, (fun _ _ z => nomatch z)⟩
  cases z
  split at ev <;> first | (cases ev; done) | skip
  next k ds =>
    split at ev
    · next hn =>
      cases ev
      obtain ⟨_, _, rr, _⟩ := s1.rep
      obtain ⟨a, us, _, _, rfl, hq, r2⟩ := rep_lst rr
      refine ⟨a, us, rfl, hq, ?_⟩
      rw [r2.length]
      exact q _ _ rfl (Itv X.K a ds.length) [.ref a] H1 rfl s1 (walks_rev hn) (fun _ z => nomatch z)
    · cases ev
theorem sI_enum (ok : XOk C X W) {e : Expr} {elts : List Expr} {kk : Nat} {tpos p pos : Pos} {ee : E} (he : PE X e (tE C W X.K H0 P0 ee)) (hst : notStar e = true) (hg : Gl X "enumerate") : PI X (.Tuple elts kk tpos) (.Call (.Name "enumerate" p) [e] [] pos) (tI C W X.K H0 P0 (.enum ee)) :=
  (pi_enum hg (ok.bi _ (by decide)) (pa_cons he pa_nil (star_cons hst)) (star_cons hst)).imp fun σ H R ⟨env, T, r, s, ev, q, qx⟩ => by
  rw [evIt] at ev
  rcases bnd_inv ev with ⟨c, e1, h1, rfl⟩ | ⟨t, e1, h1, ev⟩
  · exact ⟨env, T, _, s, h1, (fun _ _ z => nomatch z), fun c e z H' s' => by cases z; exact qx _ _ rfl H' s'⟩
  refine ⟨env, T, _, s, h1, fun t' e1' z v1 H1 s1 a1 => ?_, (fun _ _ z => nomatch z)⟩
  cases z
  split at ev <;> first | (cases ev; done) | skip
  next k ds =>
    split at ev
    · next hn =>
      cases ev
      obtain ⟨_, _, rr, _⟩ := s1.rep
      obtain ⟨a, us, _, _, rfl, hq, r2⟩ := rep_lst rr
      exact ⟨a, us, rfl, hq, q _ _ rfl (Ite X.K a) [.ref a] H1 rfl s1 (walks_enum hn) (fun _ z => nomatch z)⟩
    · cases ev
theorem sI_str {e tg : Expr} {ee : E} (he : PE X e (tE C W X.K H0 P0 ee)) : PI X tg e (tI C W X.K H0 P0 (.str ee)) := (pi_str he).imp fun σ H R ⟨env, T, r, s, ev, q, qx⟩ => by
  rw [evIt] at ev
  rcases bnd_inv ev with ⟨c, e1, h1, rfl⟩ | ⟨t, e1, h1, ev⟩
  · exact ⟨env, T, _, s, h1, (fun _ _ z => nomatch z), fun c e z H' s' => by cases z; exact qx _ _ rfl H' s'⟩
  refine ⟨env, T, _, s, h1, fun t' e1' z v1 H1 s1 a1 => ?_, (fun _ _ z => nomatch z)⟩
  cases z
  split at ev <;> first | (cases ev; done) | skip
  next x hx =>
    cases ev
    obtain ⟨_, _, r1⟩ := seen (U := []) s1 a1 hx rfl
    cases r1
    exact ⟨x, rfl, q _ _ rfl (Its x) [] H1 rfl s1.pop1 walks_str (fun _ z => nomatch z)⟩
theorem sI_rg1 (ok : XOk C X W) {a tg : Expr} {p pos : Pos} {ea : E} (ha : PE X a (tE C W X.K H0 P0 ea)) (hst : notStar a = true) (hg : Gl X "range") : PI X tg (.Call (.Name "range" p) [a] [] pos) (tI C W X.K H0 P0 (.rg1 ea)) :=
  (pi_range1 hg (ok.bi _ (by decide)) (pa_cons ha pa_nil (star_cons hst)) (star_cons hst)).imp fun σ H R ⟨env, T, r, s, ev, q, qx⟩ => by
  rw [evIt] at ev
  rcases bnd_inv ev with ⟨c, e1, h1, rfl⟩ | ⟨t, e1, h1, ev⟩
  · exact ⟨env, T, _, s, h1, (fun _ _ z => nomatch z), fun c e z H' s' => by cases z; exact qx _ _ rfl H' s'⟩
  refine ⟨env, T, _, s, h1, fun t' e1' z v1 H1 s1 a1 => ?_, (fun _ _ z => nomatch z)⟩
  cases z
  split at ev <;> first | (cases ev; done) | skip
  next j hx =>
    cases hc : C.L.rng j with
    | false => rw [hc] at ev; cases ev
    | true =>
      rw [hc] at ev
      cases ev
      obtain ⟨_, _, r1⟩ := seen (U := []) s1 a1 hx rfl
      cases r1
      obtain ⟨b1, b2⟩ := ok.rng _ hc
      exact ⟨j, rfl, b1, b2, q _ _ rfl (L2.Itr 0 j.toNat) [] H1 rfl s1.pop1 walks_rg (fun _ z => nomatch z)⟩
theorem sI_rg2 (ok : XOk C X W) {a b tg : Expr} {p pos : Pos} {ea eb : E} (ha : PE X a (tE C W X.K H0 P0 ea)) (hb : PE X b (tE C W X.K H0 P0 eb)) (hst : notStar a = true) (hst2 : notStar b = true) (hg : Gl X "range") : PI X tg (.Call (.Name "range" p) [a, b] [] pos) (tI C W X.K H0 P0 (.rg2 ea eb)) :=
  (pi_range2 hg (ok.bi _ (by decide)) (pa_cons ha (pa_cons hb pa_nil (star_cons hst2)) (star_cons hst)) (by rw [star_cons hst, star_cons hst2]; rfl) (by rw [star_cons hst2]; rfl)).imp fun σ H R ⟨env, T, r, s, ev, q, qx⟩ => by
  rw [evIt] at ev
  rcases bnd_inv ev with ⟨c, e1, h1, rfl⟩ | ⟨t1, e1, h1, ev⟩
  · exact ⟨env, T, _, s, h1, (fun _ _ z => nomatch z), fun c e z H' s' => by cases z; exact qx _ _ rfl H' s'⟩
  refine ⟨env, T, _, s, h1, fun t' e1' z v1 H1 s1 a1 => ?_, (fun _ _ z => nomatch z)⟩
  cases z
  rcases bnd_inv ev with ⟨c, e2, h2, rfl⟩ | ⟨t2, e2, h2, ev⟩
  · exact ⟨_, _, _, s1, h2, (fun _ _ z => nomatch z), fun c e z H' s' => by cases z; exact qx _ _ rfl H' s'.pop1⟩
  refine ⟨_, _, _, s1, h2, fun t' e2' z v2 H2 s2 a2 => ?_, (fun _ _ z => nomatch z)⟩
  cases z
  split at ev <;> first | (cases ev; done) | skip
  next i j hx hy =>
    cases hc : C.L.rng i && C.L.rng j with
    | false => rw [hc] at ev; cases ev
    | true =>
      rw [hc] at ev
      cases ev
      obtain ⟨rfl, rfl, s'⟩ := int2 s2 a1 a2 hx hy
      obtain ⟨b1, b2⟩ := ok.rng _ (and2 hc).1
      obtain ⟨b3, b4⟩ := ok.rng _ (and2 hc).2
      exact ⟨i, j, rfl, ⟨b1, b2, b3, b4⟩, q _ _ rfl (L2.Itr i (j - i).toNat) [] H2 rfl s' walks_rg (fun _ z => nomatch z)⟩
theorem rgC_of {i j c : Int} (hc : rgSteps.contains c = true) (h1 : -(2 ^ 62) ≤ i) (h2 : i < 2 ^ 62) (h3 : -(2 ^ 62) ≤ j) (h4 : j < 2 ^ 62) : RgC i j c (rgN i j c) := by
  have hm : c = -1 ∨ c = 2 ∨ c = 3 ∨ c = 4 ∨ c = 12 := by simpa [rgSteps] using hc
  refine ⟨by omega, by omega, ?_, rangeSize_toNat i j c⟩
  rcases hm with rfl | rfl | rfl | rfl | rfl
  · exact PySem.W.small_down h1 h2 h3 h4
  all_goals
    unfold Builtin.Range.small
    simp only [Builtin.Range.rangeSize, Builtin.Range.rangeFitsLong, Bool.and_eq_true, Bool.or_eq_true, decide_eq_true_eq, beq_iff_eq]
    simp
    (try split) <;> omega
end
end TV
namespace TV
open PySem PySem.Spec PyProof.Rows L2
section
variable {C : Ctx} {W : Wish} {X : Cx} {H0 : Hp} {P0 : Addr → Prop}

theorem itemsOf2 {a b : D} {p : List D × List D} (h : itemsOf [a, b] = some p) : ∃ k1 k2 ds es, a = .lst k1 ds ∧ b = .lst k2 es ∧ noOwL ds = true ∧ noOwL es = true ∧ p = ([a, b], zip2D ds es) := by
  cases a <;> cases b <;> first | (simp [itemsOf] at h; done) | skip
  simp only [itemsOf] at h
  split at h
  · next hn =>
    cases h
    exact ⟨_, _, _, _, rfl, rfl, (and2 hn).1, (and2 hn).2, rfl⟩
  · cases h
theorem sI_zip2 (ok : XOk C X W) {e e2 : Expr} {elts : List Expr} {kk : Nat} {tpos p pos : Pos} {ea eb : E} (ha : PE X e (tE C W X.K H0 P0 ea)) (hb : PE X e2 (tE C W X.K H0 P0 eb)) (hst : notStar e = true) (hst2 : notStar e2 = true) (hg : Gl X "zip") : PI X (.Tuple elts kk tpos) (.Call (.Name "zip" p) [e, e2] [] pos) (tI C W X.K H0 P0 (.zip (.cons ea (.cons eb .nil)))) :=
  (pi_zip hg (ok.bi _ (by decide)) (sEs_cons hst ha (sEs_cons hst2 hb sEs_nil)) (star_cons hst) (by rw [star_cons hst2]; rfl)).imp fun σ H R ⟨env, T, r, s, ev, q, qx⟩ => by
  rw [evIt] at ev
  rcases bnd_inv ev with ⟨c, e1, h1, rfl⟩ | ⟨ts, e1, h1, ev⟩
  · exact ⟨env, T, _, s, h1, (fun _ _ z => nomatch z), fun c e z H' s' => by cases z; exact qx _ _ rfl H' s'⟩
  refine ⟨env, T, _, s, h1, fun t' e1' z vs H1 s1 a1 => ?_, (fun _ _ z => nomatch z)⟩
  cases z
  obtain ⟨ds, hd, ev⟩ := obnd_inv ev
  obtain ⟨pp, hp, ev⟩ := obnd_inv ev
  cases ev
  have l2 : ts.length = 2 := by
    rw [evEs] at h1
    rcases bnd_inv h1 with ⟨_, _, _, z⟩ | ⟨t1, e2, _, h1⟩
    · cases z
    rw [evEs] at h1
    rcases bnd_inv h1 with ⟨_, _, z, z2⟩ | ⟨t2, e3, h2, h1⟩
    · cases z2
    cases h1
    rcases bnd_inv h2 with ⟨_, _, _, z⟩ | ⟨t3, e4, _, h2⟩
    · cases z
    rw [evEs] at h2
    cases h2
    rfl
  obtain ⟨k1, k2⟩ := tmz_vals a1 hd
  have ld : ds.length = 2 := by rw [← l2, ats_len a1, ← k2, ← k1]; simp
  obtain ⟨x, y, rfl⟩ : ∃ x y, ds = [x, y] := by
    match ds, ld with
    | [x, y], _ => exact ⟨x, y, rfl⟩
  obtain ⟨kk1, kk2, xs, ys, rfl, rfl, n1, n2, rfl⟩ := itemsOf2 hp
  have lv : vs.length = 2 := by rw [← ats_len a1, l2]
  obtain ⟨v, w, rfl⟩ : ∃ v w, vs = [v, w] := by
    match vs, lv with
    | [v, w], _ => exact ⟨v, w, rfl⟩
  have ez : tmz ts [v, w] = [(.lst kk1 xs, v), (.lst kk2 ys, w)] := by
    have : tmz ts [v, w] = ((tmz ts [v, w]).map (·.1)).zip ((tmz ts [v, w]).map (·.2)) := by
      rw [List.zip_map']; simp
    rw [this, k1, k2]; rfl
  rw [ez] at s1
  obtain ⟨a, us, rfl, hq, _, _⟩ := held_at (j := 0) s1 rfl n1
  obtain ⟨b, ws, rfl, hq2, _, _⟩ := held_at (j := 1) s1 rfl n2
  exact ⟨a, b, us, ws, rfl, hq, hq2, q _ _ rfl (Itz X.K a b) [.ref a, .ref b] H1 rfl s1 (walks_zip n1 n2) (fun _ z => nomatch z)⟩
theorem reps_app {K : PySem.W.Frag} {H : Hp} : ∀ {us us2 : List V} {ds ds2 : List D} {s s2 : List Addr}, Reps K H us ds [] s → Reps K H us2 ds2 [] s2 → Reps K H (us ++ us2) (ds ++ ds2) [] (s ++ s2) := by
  intro us
  induction us with
  | nil => intro us2 ds ds2 s s2 r r2; cases r; exact r2
  | cons u us ih =>
    intro us2 ds ds2 s s2 r r2
    generalize hf : ([] : List Addr) = f0 at r
    cases r with
    | cons a b =>
      obtain ⟨rfl, rfl⟩ := List.append_eq_nil_iff.mp hf.symm
      rw [List.append_assoc]
      exact Reps.cons (f := []) a (ih b r2)
theorem reps_rev {K : PySem.W.Frag} {H : Hp} : ∀ {us : List V} {ds : List D} {s : List Addr}, Reps K H us ds [] s → ∃ s', Reps K H us.reverse ds.reverse [] s' ∧ ∀ a ∈ s', a ∈ s := by
  intro us
  induction us with
  | nil => intro ds s r; cases r; exact ⟨[], .nil, fun _ z => nomatch z⟩
  | cons u us ih =>
    intro ds s r
    generalize hf : ([] : List Addr) = f0 at r
    cases r with
    | cons a b =>
      rename_i s1 s2
      obtain ⟨rfl, rfl⟩ := List.append_eq_nil_iff.mp hf.symm
      obtain ⟨s', r', k⟩ := ih b
      rw [List.reverse_cons, List.reverse_cons]
      refine ⟨s' ++ (_ ++ []), reps_app r' (Reps.cons (f := []) a .nil), fun x hx => ?_⟩
      rcases List.mem_append.mp hx with z | z
      · exact List.mem_append_right _ (k x z)
      · rw [List.append_nil] at z
        exact List.mem_append_left _ z
theorem reps_rg {K : PySem.W.Frag} {H : Hp} (a : Int) (n : Nat) : Reps K H ((List.range n).map fun i => V.int (a + (i : Nat))) (rgD a n 1) [] [] := by
  unfold rgD
  have : ∀ l : List Nat, Reps K H (l.map fun i => V.int (a + (i : Nat))) (l.map fun k : Nat => D.int (a + (k : Int) * 1)) [] [] := by
    intro l
    induction l with
    | nil => exact .nil
    | cons i l ih =>
      rw [List.map_cons, List.map_cons, Int.mul_one]
      exact .cons (f := []) (s := []) (.int _) ih
  exact this _
theorem sE_lrv (ok : XOk C X W) {e : Expr} {p p2 pos pos2 : Pos} {ee : E} (he : PE X e (tE C W X.K H0 P0 ee)) (hst : notStar e = true) (hg : Gl X "list") (hg2 : Gl X "reversed") : PE X (.Call (.Name "list" p) [.Call (.Name "reversed" p2) [e] [] pos2] [] pos) (tE C W X.K H0 P0 (.lrv ee)) :=
  (TV0.pe_lstRev ok.calm hg (ok.bi _ (by decide)) hg2 (ok.bi _ (by decide)) he (star_cons hst) (star_cons rfl)).imp fun σ H Q ⟨env, T, r, s, ev, q, qx⟩ => by
  rw [evE] at ev
  rcases bnd_inv ev with ⟨c, e1, h1, rfl⟩ | ⟨t1, e1, h1, ev⟩
  · exact ⟨env, T, _, s, h1, (fun _ _ z => nomatch z), fun c e z H' s' => by cases z; exact qx _ _ rfl H' s'⟩
  refine ⟨env, T, _, s, h1, fun t' e1' z v1 H1 s1 a1 => ?_, (fun _ _ z => nomatch z)⟩
  cases z
  split at ev
  · next k ds hr =>
    split at ev
    · next hn =>
      cases ev
      obtain ⟨us, s2, l2, kd⟩ := SR.kids (t := t1) (x := .lst k ds) (j := 0) s1 rfl a1 hr rfl hn
      obtain ⟨a, rfl, hq⟩ := kid_sq kd
      have l2' : us.length = ds.length := l2
      refine ⟨a, us, rfl, hq, fun p hp => ?_⟩
      have s3 := SR.newL (vs := us.reverse) (ds := ds.reverse) s2 hp fun fa sa r n dj => by
        rw [zip_fst l2, zip_snd l2] at r
        have z1 := Reps.noOw r hn
        subst z1
        obtain ⟨s', r', k⟩ := reps_rev r
        exact ⟨[], s', r', .nil, (fun _ z => nomatch z), k⟩
      exact q _ _ rfl _ _ s3.drop1 trivial
    · cases ev
  · cases ev
theorem sE_lrg (ok : XOk C X W) {e : Expr} {p p2 pos pos2 : Pos} {ee : E} (he : PE X e (tE C W X.K H0 P0 ee)) (hst : notStar e = true) (hg : Gl X "list") (hg2 : Gl X "range") : PE X (.Call (.Name "list" p) [.Call (.Name "range" p2) [e] [] pos2] [] pos) (tE C W X.K H0 P0 (.lrg ee)) :=
  (pe_listRg ok.calm hg (ok.bi _ (by decide)) (prg_1 hg2 (ok.bi _ (by decide)) he (star_cons hst)) (star_cons rfl)).imp fun σ H Q ⟨env, T, r, s, ev, q, qx⟩ => by
  rw [evE] at ev
  rcases bnd_inv ev with ⟨c, e1, h1, rfl⟩ | ⟨t1, e1, h1, ev⟩
  · exact ⟨env, T, _, s, h1, (fun _ _ z => nomatch z), fun c e z H' s' => by cases z; exact qx _ _ rfl H' s'⟩
  refine ⟨env, T, _, s, h1, fun t' e1' z v1 H1 s1 a1 => ?_, (fun _ _ z => nomatch z)⟩
  cases z
  split at ev
  · next j hr =>
    cases hc : C.L.rng j && C.L.len j.toNat with
    | false => rw [hc] at ev; cases ev
    | true =>
      rw [hc] at ev
      cases ev
      obtain ⟨_, _, r1⟩ := seen (U := []) s1 a1 hr rfl
      cases r1
      obtain ⟨b1, b2⟩ := ok.rng _ (and2 hc).1
      have b3 := ok.len _ (and2 hc).2
      have b4 : j.toNat ≤ 2 ^ 24 := by rw [sizeLine_eq] at b3; omega
      refine ⟨j, rfl, ⟨by decide, by decide, b1, b2, by rw [Int.sub_zero]; exact b4⟩, fun p hp => ?_⟩
      have s3 := SR.newL (U := []) (vs := rgV 0 j) (ds := rgD 0 j.toNat 1) s1.pop1 hp fun fa sa r n dj => ⟨[], [], by unfold rgV; rw [Int.sub_zero]; exact reps_rg 0 j.toNat, .nil, (fun _ z => nomatch z), (fun _ z => nomatch z)⟩
      exact q _ _ rfl _ _ s3 trivial
  · cases ev
theorem itemsOf3 {a b c : D} {p : List D × List D} (h : itemsOf [a, b, c] = some p) : ∃ k1 k2 k3 ds es gs, a = .lst k1 ds ∧ b = .lst k2 es ∧ c = .lst k3 gs ∧ (noOwL ds = true ∧ noOwL es = true ∧ noOwL gs = true) ∧ p = ([a, b, c], zip3D ds es gs) := by
  cases a <;> cases b <;> cases c <;> first | (simp [itemsOf] at h; done) | skip
  simp only [itemsOf] at h
  split at h
  · next hn =>
    cases h
    obtain ⟨h1, h2⟩ := and2 hn
    obtain ⟨h0, h1⟩ := and2 h1
    exact ⟨_, _, _, _, _, _, rfl, rfl, rfl, ⟨h0, h1, h2⟩, rfl⟩
  · cases h
theorem zip3_get : ∀ {a b c : List D} {i : Nat} {d : D}, (zip3D a b c)[i]? = some d → ∃ x y z, a[i]? = some x ∧ b[i]? = some y ∧ c[i]? = some z ∧ d = .tup [x, y, z]
  | [], _, _, i, d, h => by simp [zip3D] at h
  | _ :: _, [], _, i, d, h => by simp [zip3D] at h
  | _ :: _, _ :: _, [], i, d, h => by simp [zip3D] at h
  | x :: a, y :: b, z :: c, 0, d, h => ⟨x, y, z, rfl, rfl, rfl, by simpa [zip3D] using h.symm⟩
  | x :: a, y :: b, z :: c, i + 1, d, h => by
    obtain ⟨x', y', z', h1, h2, h3, h4⟩ := zip3_get (a := a) (b := b) (c := c) (i := i) (by simpa [zip3D] using h)
    exact ⟨x', y', z', by simpa using h1, by simpa using h2, by simpa using h3, h4⟩
theorem zip3_len : ∀ {a b c : List D} {i : Nat}, (zip3D a b c).length ≤ i → a.length ≤ i ∨ b.length ≤ i ∨ c.length ≤ i
  | [], _, _, i, h => .inl (Nat.zero_le _)
  | _ :: _, [], _, i, h => .inr (.inl (Nat.zero_le _))
  | _ :: _, _ :: _, [], i, h => .inr (.inr (Nat.zero_le _))
  | x :: a, y :: b, z :: c, 0, h => by simp [zip3D] at h
  | x :: a, y :: b, z :: c, i + 1, h => by
    have := zip3_len (a := a) (b := b) (c := c) (i := i) (by simpa [zip3D] using h)
    simpa using this
theorem walks_zip3 {K : PySem.W.Frag} {k1 k2 k3 : LK} {ds es gs : List D} {a b c : Addr} (hn : noOwL ds = true) (hn2 : noOwL es = true) (hn3 : noOwL gs = true) : Walks K H0 P0 (TV0.Itz3 K a b c ds.length es.length gs.length) [(.lst k1 ds, .ref a), (.lst k2 es, .ref b), (.lst k3 gs, .ref c)] (zip3D ds es gs) := fun env σ T H i s => by
  obtain ⟨a', us, e, hq, hl, g⟩ := held_at (j := 0) s rfl hn
  obtain ⟨b', ws, e2, hq2, hl2, _⟩ := held_at (j := 1) s rfl hn2
  obtain ⟨c', qs, e3, hq3, hl3, _⟩ := held_at (j := 2) s rfl hn3
  cases e
  cases e2
  cases e3
  refine ⟨fun d hd => ?_, fun h => ⟨us, ws, qs, ⟨hq, hq2, hq3⟩, ⟨hl, hl2, hl3⟩, zip3_len h⟩⟩
  obtain ⟨x, y, z, h1, h2, h3, rfl⟩ := zip3_get hd
  obtain ⟨u, hu, s'⟩ := g i x h1
  obtain ⟨b', ws', e2, hq2', hl2', g2⟩ := held_at (j := 2) s' rfl hn2
  cases e2
  obtain ⟨w, hw, s''⟩ := g2 i y h2
  obtain ⟨c', qs', e3, hq3', hl3', g3⟩ := held_at (j := 4) s'' rfl hn3
  cases e3
  obtain ⟨q, hqq, s3⟩ := g3 i z h3
  refine ⟨⟨us, ws', qs', u, w, q, ⟨hq, hq2', hq3'⟩, ⟨hl, hl2', hl3'⟩, hu, hw, hqq⟩, fun zz H' ⟨p, x', y', z', e3, hp, e4, h3, h4, h5⟩ => ?_⟩
  subst e3 e4
  have q1 := h3 us hq
  rw [hu] at q1
  cases q1
  have q2 := h4 ws' hq2'
  rw [hw] at q2
  cases q2
  have q3 := h5 qs' hq3'
  rw [hqq] at q3
  cases q3
  have t1 := SR.roll (A := [(z, q), (y, w)]) (p := (x, u)) (T := [(.lst k1 ds, V.ref a), (.lst k2 es, V.ref b), (.lst k3 gs, V.ref c)] ++ T) s3
  have t2 := SR.roll (A := [(x, u), (z, q)]) (p := (y, w)) (T := [(.lst k1 ds, V.ref a), (.lst k2 es, V.ref b), (.lst k3 gs, V.ref c)] ++ T) t1
  have s5 := SR.roll (A := [(y, w)]) (p := (x, u)) (T := (z, q) :: ([(.lst k1 ds, V.ref a), (.lst k2 es, V.ref b), (.lst k3 gs, V.ref c)] ++ T)) t2
  exact SR.newT (U := [(x, u), (y, w), (z, q)]) s5 hp
theorem sI_zip3 (ok : XOk C X W) {e e2 e3 : Expr} {elts : List Expr} {kk : Nat} {tpos p pos : Pos} {ea eb ec : E} (ha : PE X e (tE C W X.K H0 P0 ea)) (hb : PE X e2 (tE C W X.K H0 P0 eb)) (hc : PE X e3 (tE C W X.K H0 P0 ec)) (hst : notStar e = true) (hst2 : notStar e2 = true) (hst3 : notStar e3 = true) (hg : Gl X "zip") : PI X (.Tuple elts kk tpos) (.Call (.Name "zip" p) [e, e2, e3] [] pos) (tI C W X.K H0 P0 (.zip (.cons ea (.cons eb (.cons ec .nil))))) :=
  (TV0.pi_zip3 hg (ok.bi _ (by decide)) (sEs_cons hst ha (sEs_cons hst2 hb (sEs_cons hst3 hc sEs_nil))) (star_cons hst) (by rw [star_cons hst2, star_cons hst3]; rfl)).imp fun σ H R ⟨env, T, r, s, ev, q, qx⟩ => by
  rw [evIt] at ev
  rcases bnd_inv ev with ⟨c, e1, h1, rfl⟩ | ⟨ts, e1, h1, ev⟩
  · exact ⟨env, T, _, s, h1, (fun _ _ z => nomatch z), fun c e z H' s' => by cases z; exact qx _ _ rfl H' s'⟩
  refine ⟨env, T, _, s, h1, fun t' e1' z vs H1 s1 a1 => ?_, (fun _ _ z => nomatch z)⟩
  cases z
  obtain ⟨ds, hd, ev⟩ := obnd_inv ev
  obtain ⟨pp, hp, ev⟩ := obnd_inv ev
  cases ev
  have l2 : ts.length = 3 := by
    rw [evEs] at h1
    rcases bnd_inv h1 with ⟨_, _, _, z⟩ | ⟨t1, e2, _, h1⟩
    · cases z
    rw [evEs] at h1
    rcases bnd_inv h1 with ⟨_, _, z, z2⟩ | ⟨t2, e3, h2, h1⟩
    · cases z2
    cases h1
    rcases bnd_inv h2 with ⟨_, _, _, z⟩ | ⟨t3, e4, _, h2⟩
    · cases z
    rw [evEs] at h2
    rcases bnd_inv h2 with ⟨_, _, z, z2⟩ | ⟨t4, e5, h3, h2⟩
    · cases z2
    cases h2
    rcases bnd_inv h3 with ⟨_, _, _, z⟩ | ⟨t5, e6, _, h3⟩
    · cases z
    rw [evEs] at h3
    cases h3
    rfl
  obtain ⟨k1, k2⟩ := tmz_vals a1 hd
  have ld : ds.length = 3 := by rw [← l2, ats_len a1, ← k2, ← k1]; simp
  obtain ⟨x, y, z, rfl⟩ : ∃ x y z, ds = [x, y, z] := by
    match ds, ld with
    | [x, y, z], _ => exact ⟨x, y, z, rfl⟩
  obtain ⟨kk1, kk2, kk3, xs, ys, zs, rfl, rfl, rfl, ⟨n1, n2, n3⟩, rfl⟩ := itemsOf3 hp
  have lv : vs.length = 3 := by rw [← ats_len a1, l2]
  obtain ⟨v, w, u, rfl⟩ : ∃ v w u, vs = [v, w, u] := by
    match vs, lv with
    | [v, w, u], _ => exact ⟨v, w, u, rfl⟩
  have ez : tmz ts [v, w, u] = [(.lst kk1 xs, v), (.lst kk2 ys, w), (.lst kk3 zs, u)] := by
    have : tmz ts [v, w, u] = ((tmz ts [v, w, u]).map (·.1)).zip ((tmz ts [v, w, u]).map (·.2)) := by
      rw [List.zip_map']; simp
    rw [this, k1, k2]; rfl
  rw [ez] at s1
  obtain ⟨a, us, rfl, hq, hl1, _⟩ := held_at (j := 0) s1 rfl n1
  obtain ⟨b, ws, rfl, hq2, hl2, _⟩ := held_at (j := 1) s1 rfl n2
  obtain ⟨c, qs, rfl, hq3, hl3, _⟩ := held_at (j := 2) s1 rfl n3
  exact ⟨a, b, c, us, ws, qs, rfl, ⟨hq, hq2, hq3⟩, by rw [hl1, hl2, hl3]; exact q _ _ rfl (TV0.Itz3 X.K a b c xs.length ys.length zs.length) [.ref a, .ref b, .ref c] H1 rfl s1 (walks_zip3 n1 n2 n3) (fun _ z => nomatch z)⟩
theorem sI_rg3 (ok : XOk C X W) {a b c tg : Expr} {p pos : Pos} {ea eb ec : E} (ha : PE X a (tE C W X.K H0 P0 ea)) (hb : PE X b (tE C W X.K H0 P0 eb)) (hc : PE X c (tE C W X.K H0 P0 ec)) (n1 : notStar a = true) (n2 : notStar b = true) (n3 : notStar c = true) (hg : Gl X "range") : PI X tg (.Call (.Name "range" p) [a, b, c] [] pos) (tI C W X.K H0 P0 (.rg3 ea eb ec)) :=
  (pi_range3 hg (ok.bi _ (by decide)) (pa_cons ha (pa_cons hb (pa_cons hc pa_nil (star_cons n3)) (star_cons n2)) (star_cons n1)) (star_cons n1) (by rw [star_cons n2, star_cons n3]; rfl)).imp fun σ H R ⟨env, T, r, s, ev, q, qx⟩ => by
  rw [evIt] at ev
  rcases bnd_inv ev with ⟨c, e1, h1, rfl⟩ | ⟨t1, e1, h1, ev⟩
  · exact ⟨env, T, _, s, h1, (fun _ _ z => nomatch z), fun c e z H' s' => by cases z; exact qx _ _ rfl H' s'⟩
  refine ⟨env, T, _, s, h1, fun t' e1' z v1 H1 s1 a1 => ?_, (fun _ _ z => nomatch z)⟩
  cases z
  rcases bnd_inv ev with ⟨c, e2, h2, rfl⟩ | ⟨t2, e2, h2, ev⟩
  · exact ⟨_, _, _, s1, h2, (fun _ _ z => nomatch z), fun c e z H' s' => by cases z; exact qx _ _ rfl H' s'.pop1⟩
  refine ⟨_, _, _, s1, h2, fun t' e2' z v2 H2 s2 a2 => ?_, (fun _ _ z => nomatch z)⟩
  cases z
  rcases bnd_inv ev with ⟨c, e3, h3, rfl⟩ | ⟨t3, e3, h3, ev⟩
  · exact ⟨_, _, _, s2, h3, (fun _ _ z => nomatch z), fun c e z H' s' => by cases z; exact qx _ _ rfl H' s'.pop1.pop1⟩
  refine ⟨_, _, _, s2, h3, fun t' e3' z v3 H3 s3 a3 => ?_, (fun _ _ z => nomatch z)⟩
  cases z
  split at ev <;> first | (cases ev; done) | skip
  next i j k hx hy hz =>
    cases hcc : C.L.rng i && C.L.rng j && rgSteps.contains k with
    | false => rw [hcc] at ev; cases ev
    | true =>
      rw [hcc] at ev
      cases ev
      obtain ⟨hcc, h3'⟩ := and2 hcc
      obtain ⟨h1', h2'⟩ := and2 hcc
      obtain ⟨_, _, r1⟩ := seen (U := [(t3.d, v3), (t2.d, v2)]) s3 a1 hx rfl
      obtain ⟨_, _, r2⟩ := seen (U := [(t3.d, v3)]) s3 a2 hy rfl
      obtain ⟨_, _, r3⟩ := seen (U := []) s3 a3 hz rfl
      cases r1
      cases r2
      cases r3
      obtain ⟨b1, b2⟩ := ok.rng _ h1'
      obtain ⟨b3, b4⟩ := ok.rng _ h2'
      exact ⟨i, j, k, rgN i j k, rfl, rgC_of h3' b1 b2 b3 b4, q _ _ rfl (Itc i k (rgN i j k)) [] H3 rfl s3.pop1.pop1.pop1 walks_rgC (fun _ z => nomatch z)⟩

theorem wipe_in {σ : L2.St} {vs : List Nat} {i : Nat} (h : i ∈ vs) (hl : i < σ.length) : (L2.wipe σ vs)[i]? = some none := by
  cases h1 : (L2.wipe σ vs)[i]? with
  | none =>
    have := List.getElem?_eq_none_iff.mp h1
    rw [wipe_length] at this
    omega
  | some o =>
    cases o with
    | some x => exact absurd h (wipe_some h1).2
    | none => rfl
theorem wipe_eq {σ σ' : L2.St} {vs : List Nat} (hl : σ'.length = σ.length) (k : ∀ i, i ∉ vs → σ'[i]? = σ[i]?) : L2.wipe σ' vs = L2.wipe σ vs := by
  apply List.ext_getElem?
  intro i
  by_cases h : i ∈ vs
  · by_cases hi : i < σ.length
    · rw [wipe_in h hi, wipe_in h (by omega)]
    · rw [List.getElem?_eq_none_iff.mpr (by rw [wipe_length]; omega), List.getElem?_eq_none_iff.mpr (by rw [wipe_length]; omega)]
  · rw [wipe_out h, wipe_out h, k i h]
theorem putS_len : ∀ (is : List Nat) (vs : List V) (σ : L2.St), (putS is vs σ).length = σ.length
  | [], _, _ => by cases ‹List V› <;> rfl
  | _ :: _, [], _ => rfl
  | i :: is, v :: vs, σ => by rw [putS, putS_len is vs, List.length_set]
theorem putS_out : ∀ (is : List Nat) (vs : List V) (σ : L2.St) (j : Nat), j ∉ is → (putS is vs σ)[j]? = σ[j]?
  | [], _, _, _, _ => by cases ‹List V› <;> rfl
  | _ :: _, [], _, _, _ => rfl
  | i :: is, v :: vs, σ, j, h => by
    rw [putS, putS_out is vs _ j (fun z => h (List.mem_cons_of_mem _ z)), List.getElem?_set_ne (fun e : i = j => h (by rw [e]; exact List.mem_cons_self))]
def tgL : Tg → List Nat
  | .one i => [i]
  | .many is => is
def gTg (K : PySem.W.Frag) : Tg → TG
  | .one i => gName i
  | .many is => gTup K is.length (gNames is)
theorem gTg_ok {K : PySem.W.Frag} {H : Hp} {env env' : Env} {σ : L2.St} {T : List (D × V)} {tg : Tg} {d : D} {x : V} {Q : L2.St → Hp → Prop} (s : SR K H0 P0 env σ ((d, x) :: T) H) (h : setTg tg d env = some env') (q : ∀ σ', (∀ own, (∀ i ∈ tgL tg, i ∈ own) → L2.wipe σ' own = L2.wipe σ own) → SR K H0 P0 env' σ' T H → Q σ' H) : gTg K tg x σ H Q := by
  cases tg with
  | one i => cases h; exact q _ (fun own ho => wipe_eq (by rw [List.length_set]) fun j hj => by rw [List.getElem?_set_ne (fun e : i = j => hj (by rw [← e]; exact ho i List.mem_cons_self))]) s.asg
  | many is =>
    cases d <;> first | (cases h; done) | skip
    rename_i ds
    simp only [setTg] at h
    split at h
    · next hl =>
      cases h
      obtain ⟨p, us, rfl, l1, hq, s2⟩ := s.openSeq (d := .tup ds) rfl
      rcases hq with ⟨⟨_, _, z⟩, _⟩ | ⟨_, hq⟩
      · cases z
      have l1' : us.length = ds.length := l1
      exact ⟨p, us, rfl, hq, by rw [l1', hl], by rw [l1', hl], q _ (fun own ho => wipe_eq (putS_len _ _ _) fun j hj => putS_out _ _ _ _ fun z => hj (ho j z)) (SR.puts hl (by rw [l1', hl]) s2)⟩
    · cases h
theorem drop_cons {α : Type} {l : List α} {i : Nat} {a : α} (h : l[i]? = some a) : l.drop i = a :: l.drop (i + 1) := by
  obtain ⟨hi, e⟩ := List.getElem?_eq_some_iff.mp h
  rw [List.drop_eq_getElem_cons hi, e]

theorem sS_for (ok : SOk C X W) {tg iter : Expr} {body : List Stmt} {pos : Pos} {etg : Tg} {it : Itr} {sb : Ss} (hi : PI X tg iter (tI C W X.K H0 P0 it)) (hg : PG X tg (gTg X.K etg)) (hb : PSs X body (tSs C W X.K H0 P0 sb)) (hs : ∀ x, foldedSetIterable iter X.env x = pure x) :
    PS X (.For tg iter body [] pos) (tS C W X.K H0 P0 (.frs etg it sb)) := (ps_for ok.po ok.calm hi hg hb hs).imp fun DD σ H ⟨env, T, r, s, ev, p⟩ => by
  rw [evS] at ev
  rcases sbnd_inv ev with ⟨c, e1, h1, rfl⟩ | ⟨pp, e1, h1, ev⟩
  · exact ⟨env, T, _, s, h1, (fun _ _ z => nomatch z), fun c e z H' s' => by cases z; exact p σ H' s'⟩
  refine ⟨env, T, _, s, h1, fun t' e1' z J hs H1 hlen s1 wk hbk => ?_, (fun _ _ z => nomatch z)⟩
  cases z
  refine ⟨fun i m σ H => ∃ env, SR X.K H0 P0 env σ (pp.1.zip hs ++ T) H ∧ forGo (fun d env => match setTg etg d env with
      | some e2 => evSs C sb e2
      | none => none) (pp.2.drop i) env = some r ∧ m = pp.2.length - i, ⟨_, e1, s1, by rw [List.drop_zero]; exact ev, rfl⟩, ?_⟩
  rintro i m σ H ⟨env, s, hf, rfl⟩
  obtain ⟨w1, w2⟩ := wk env σ T H i s
  cases hd : pp.2[i]? with
  | none =>
    have hle : pp.2.length ≤ i := List.getElem?_eq_none_iff.mp hd
    rw [List.drop_eq_nil_of_le hle] at hf
    cases hf
    exact .inl ⟨w2 hle, p _ _ s.pop⟩
  | some d =>
    obtain ⟨go, y⟩ := w1 d hd
    rw [drop_cons hd, forGo] at hf
    have hlt' := lt_of_get hd
    refine .inr ⟨go, fun σ' H' => ∃ env, SR X.K H0 P0 env σ' (pp.1.zip hs ++ T) H' ∧ forGo (fun d env => match setTg etg d env with
      | some e2 => evSs C sb e2
      | none => none) (pp.2.drop (i + 1)) env = some r, fun σ' H' ⟨env, a, c⟩ => ⟨pp.2.length - (i + 1), by omega, env, a, c, rfl⟩, fun x H' hy => ?_⟩
    have s2 := y x H' hy
    cases hst : setTg etg d env with
    | none => rw [hst] at hf; cases hf
    | some e2 =>
      rw [hst] at hf
      dsimp only at hf
      refine gTg_ok s2 hst fun σ' _ s3 => ?_
      split at hf <;> first | (cases hf; done) | skip
      · next e3 he => exact ⟨e2, _, _, s3, he, fun σ4 H4 s4 => ⟨e3, s4, hf⟩⟩
      · next e3 he => exact ⟨e2, _, _, s3, he, fun σ4 H4 s4 => ⟨e3, s4, hf⟩⟩
      · next e3 he => cases hf; exact ⟨e2, _, _, s3, he, fun σ4 H4 s4 => p σ4 H4 s4.pop⟩
      · next d he => cases hf; exact ⟨e2, _, _, s3, he, p⟩
      · next x e3 he => cases hf; exact ⟨e2, _, _, s3, he, fun σ4 H4 s4 => p σ4 H4 s4.pop⟩

theorem SR.unroll {K : PySem.W.Frag} {H : Hp} {env : Env} {σ : L2.St} {A T : List (D × V)} {p : D × V} (h : SR K H0 P0 env σ (p :: (A ++ T)) H) : SR K H0 P0 env σ (A ++ p :: T) H := by
  have h' : SR K H0 P0 env σ ((p :: A) ++ T) H := h
  have := SR.step (W' := A ++ [p]) h' (Same.refl H) fun fa sa r n dj => by
    cases r with
    | cons r1 r2 =>
      rename_i f s f1 s1
      have pm : (f ++ f1).Perm (f1 ++ f) := List.perm_append_comm
      refine ⟨f1 ++ (f ++ []), s1 ++ (s ++ []), by rw [List.map_append, List.map_append]; exact Reps.append r2 (.cons r1 .nil), by rw [List.append_nil]; exact pm.nodup_iff.mp n, fun a z z2 => ?_, fun a z => .inl ?_, fun a z => .inl ?_⟩
      · rw [List.append_nil] at z z2
        exact dj a (pm.mem_iff.mpr z) (List.mem_append.mpr (List.mem_append.mp z2).symm)
      · rw [List.append_nil] at z; exact pm.mem_iff.mpr z
      · rw [List.append_nil] at z; exact List.mem_append.mpr (List.mem_append.mp z).symm
  simpa using this
/-- a waiting list of the def's own takes what waits ahead of it -/
theorem SR.push {K : PySem.W.Frag} {H : Hp} {env : Env} {σ : L2.St} {T : List (D × V)} {d : D} {y v : V} {ds : List D} (h : SR K H0 P0 env σ ((d, y) :: (.lst .ow ds, v) :: T) H) :
    ∃ a us, v = .ref a ∧ H a = some (.lst us) ∧ us.length = ds.length ∧ SR K H0 P0 env σ ((.lst .ow (ds ++ [d]), .ref a) :: T) (L2.upd H a (.lst (us ++ [y]))) := by
  obtain ⟨fp, sp, r, n, dj, p, sm⟩ := id h.sr
  cases r with
  | cons r1 r2 =>
    rename_i f1 s1 fp sp
    cases r2 with
    | cons r2 r3 =>
      rename_i f2 s2 f3 s3
      cases r2 with
      | ow hh rr =>
        rename_i a us f2
        have n1 := List.nodup_append.mp n
        have n2 := List.nodup_append.mp n1.2.1
        have n3 := List.nodup_cons.mp n2.1
        have a1 : a ∉ f1 := fun z => n1.2.2 a z a (List.mem_append_left _ List.mem_cons_self) rfl
        have a3 : a ∉ f3 := fun z => n2.2.2 a List.mem_cons_self a z rfl
        have as := (dj a (List.mem_append_right _ (List.mem_append_left _ List.mem_cons_self))).1
        have as1 : a ∉ s1 := fun z => as (List.mem_append_left _ z)
        have as2 : a ∉ s2 := fun z => as (List.mem_append_right _ (List.mem_append_left _ z))
        have as3 : a ∉ s3 := fun z => as (List.mem_append_right _ (List.mem_append_right _ z))
        refine ⟨a, us, rfl, hh, rr.length, ⟨h.len, h.has, (a :: (f2 ++ (f1 ++ []))) ++ f3, (s2 ++ (s1 ++ [])) ++ s3, .cons (.ow upd_same (Reps.append (Reps.upd hh rr n3.1 as2) (.cons (Rep.upd hh r1 a1 as1) .nil))) (Reps.upd hh r3 a3 as3), ?_, fun b z => ?_, fun b z => ?_, fun b o eb => ?_⟩⟩
        · rw [List.append_nil]
          refine List.nodup_append.mpr ⟨List.nodup_cons.mpr ⟨fun z => (List.mem_append.mp z).elim n3.1 a1, List.nodup_append.mpr ⟨n3.2, n1.1, fun b z c z2 e => n1.2.2 c z2 b (List.mem_append_left _ (List.mem_cons_of_mem _ z)) e.symm⟩⟩, n2.2.1, fun b z c z2 e => ?_⟩
          subst e
          rcases List.mem_cons.mp z with rfl | z
          · exact a3 z2
          · rcases List.mem_append.mp z with z | z
            · exact n2.2.2 b (List.mem_cons_of_mem _ z) b z2 rfl
            · exact n1.2.2 b z b (List.mem_append_right _ z2) rfl
        · rw [List.append_nil] at z
          have hb : b ∈ f1 ++ (a :: f2 ++ f3) := by
            rcases List.mem_append.mp z with z | z
            · rcases List.mem_cons.mp z with rfl | z
              · exact List.mem_append_right _ (List.mem_append_left _ List.mem_cons_self)
              · rcases List.mem_append.mp z with z | z
                · exact List.mem_append_right _ (List.mem_append_left _ (List.mem_cons_of_mem _ z))
                · exact List.mem_append_left _ z
            · exact List.mem_append_right _ (List.mem_append_right _ z)
          refine ⟨fun z2 => (dj b hb).1 ?_, (dj b hb).2⟩
          rw [List.append_nil] at z2
          rcases List.mem_append.mp z2 with z2 | z2
          · rcases List.mem_append.mp z2 with z2 | z2
            · exact List.mem_append_right _ (List.mem_append_left _ z2)
            · exact List.mem_append_left _ z2
          · exact List.mem_append_right _ (List.mem_append_right _ z2)
        · rw [List.append_nil] at z
          refine p b ?_
          rcases List.mem_append.mp z with z | z
          · rcases List.mem_append.mp z with z | z
            · exact List.mem_append_right _ (List.mem_append_left _ z)
            · exact List.mem_append_left _ z
          · exact List.mem_append_right _ (List.mem_append_right _ z)
        · have hb : b ≠ a := fun z => by
            have := (dj a (List.mem_append_right _ (List.mem_append_left _ List.mem_cons_self))).2
            rw [z, this] at eb; cases eb
          rw [upd_ne hb]
          exact sm b o eb
/-- slots of which nothing is known may hold anything -/
theorem SR.slots {K : PySem.W.Frag} {H : Hp} {env : Env} {σ σ' : L2.St} {T : List (D × V)} (h : SR K H0 P0 env σ T H) (hl : σ'.length = σ.length) (k : ∀ (i : Nat) (d : D), env[i]? = some d → d.isHole = false → σ'[i]? = σ[i]?) : SR K H0 P0 env σ' T H := by
  refine ⟨hl.trans h.len, fun i d e n => by rw [k i d e n]; exact h.has i d e n, ?_⟩
  have e : svs env σ' = svs env σ := by
    unfold svs
    apply List.ext_getElem?
    intro i
    rw [List.getElem?_zipWith, List.getElem?_zipWith]
    cases he : env[i]? with
    | none => simp
    | some d =>
      by_cases hh : d.isHole = false
      · rw [k i d he hh]
      · have : d = .hole := by cases d <;> first | rfl | (simp [D.isHole] at hh)
        subst this
        have hi : i < env.length := lt_of_get he
        have h1 : i < σ.length := by rw [h.len]; exact hi
        have h2 : i < σ'.length := by rw [hl]; exact h1
        simp [h1, h2, sv]
  rw [e]
  exact h.sr
theorem kill_len : ∀ (is : List Nat) (env : Env), (kill is env).length = env.length
  | [], _ => rfl
  | i :: is, env => by rw [kill, List.foldl_cons]; have := kill_len is (env.set i .hole); rw [kill] at this; rw [this, List.length_set]
theorem kill_keep : ∀ {is : List Nat} {env : Env} {i : Nat}, env[i]? = some .hole → (kill is env)[i]? = some .hole
  | [], _, _, h => h
  | j :: is, env, i, h => by
    rw [kill, List.foldl_cons]
    refine kill_keep (is := is) (env := env.set j .hole) ?_
    by_cases e : j = i
    · subst e
      rw [List.getElem?_set_self (lt_of_get h)]
    · rw [List.getElem?_set_ne e]; exact h
theorem kill_at : ∀ {is : List Nat} {env : Env} {i : Nat} {d : D}, i ∈ is → (kill is env)[i]? = some d → d = .hole
  | j :: is, env, i, d, hi, h => by
    rcases List.mem_cons.mp hi with rfl | hi
    · have hl : i < env.length := by have := lt_of_get h; rwa [kill_len] at this
      have := kill_keep (is := is) (env := env.set i .hole) (i := i) (by rw [List.getElem?_set_self hl])
      rw [kill, List.foldl_cons] at h
      rw [kill] at this
      rw [this] at h
      exact (Option.some.inj h).symm
    · rw [kill, List.foldl_cons] at h
      exact kill_at (is := is) (env := env.set j .hole) hi h
theorem SR.wipe {K : PySem.W.Frag} {H : Hp} {env : Env} {σ σ' : L2.St} {T : List (D × V)} {own : List Nat} (h : SR K H0 P0 env σ T H) (hw : L2.wipe σ' own = L2.wipe σ own) : SR K H0 P0 (TV.kill own env) σ' T H := by
  have hl : σ'.length = σ.length := by rw [← wipe_length σ' own, hw, wipe_length]
  refine SR.slots (h.kill own) hl fun i d e n => ?_
  by_cases hi : i ∈ own
  · have := kill_at hi e
    subst this
    simp [D.isHole] at n
  · rw [← wipe_out (σ := σ') hi, hw, wipe_out hi]
theorem SR.rewipe {K : PySem.W.Frag} {H : Hp} {env : Env} {σ σ' : L2.St} {T : List (D × V)} {own : List Nat} (h : SR K H0 P0 (TV.kill own env) σ T H) (hw : L2.wipe σ' own = L2.wipe σ own) : SR K H0 P0 (TV.kill own env) σ' T H := by
  have hl : σ'.length = σ.length := by rw [← wipe_length σ' own, hw, wipe_length]
  refine SR.slots h hl fun i d e n => ?_
  by_cases hi : i ∈ own
  · have := kill_at hi e
    subst this
    simp [D.isHole] at n
  · rw [← wipe_out (σ := σ') hi, hw, wipe_out hi]
theorem wipe_wipe (σ : L2.St) (vs : List Nat) : L2.wipe (L2.wipe σ vs) vs = L2.wipe σ vs := wipe_eq (wipe_length _ _) fun i h => wipe_out h
/-- an optional test -/
def tCnd (C : Ctx) (W : Wish) (K : PySem.W.Frag) (H0 : Hp) (P0 : Addr → Prop) (o : Eo) : TT := fun σ H Q => ∃ env T r, SR K H0 P0 env σ T H ∧ evC C o env = some r ∧
  (∀ b env', r = .ok b env' → ∀ H', SR K H0 P0 env' σ T H' → Q b H') ∧ (∀ c env', r = .ex c env' → ∀ H', SR K H0 P0 env' σ T H' → W c σ H')
theorem sC_no : PTs X [] (tCnd C W X.K H0 P0 .no) := ⟨fun pins s σ H Q I ⟨env, T, r, sr, e, q, qx⟩ => by
  rw [evC] at e
  cases e
  exact pts_nil.run pins s σ H Q I (q _ _ rfl H sr)⟩
theorem _root_.L2.PTs.imp {e : List Expr} {t t' : TT} (h : PTs X e t) (k : ∀ σ H Q, t' σ H Q → t σ H Q) : PTs X e t' := ⟨fun pins s σ H Q I hq => h.run pins s σ H Q I (k σ H Q hq)⟩
theorem sC_so {c : Expr} {ec : E} (hc : PT X c (tT C W X.K H0 P0 ec)) : PTs X [c] (tCnd C W X.K H0 P0 (.so ec)) := (pts_one hc).imp fun σ H Q ⟨env, T, r, s, e, q, qx⟩ => by
  rw [evC] at e
  rcases bnd_inv e with ⟨c, e1, h1, rfl⟩ | ⟨t1, e1, h1, e⟩
  · exact ⟨env, T, _, s, h1, (fun _ _ z => nomatch z), fun c e z H' s' => by cases z; exact qx _ _ rfl H' s'⟩
  refine ⟨env, T, _, s, h1, fun t' e1' z => ?_, (fun _ _ z => nomatch z)⟩
  cases z
  split at e
  · next b hb =>
    cases e
    exact ⟨b, hb, q _ _ rfl⟩
  · cases e
abbrev noW : Wish := fun _ _ _ => False
/-- what an element's turn gives -/
def lcF (C : Ctx) (elt : E) (tg : Tg) (cond : Eo) (own : List Nat) : D → Env → Out (Option D) := fun d env => obnd (setTg tg d (kill own env)) fun e2 => bnd (evC C cond e2) fun b e3 =>
  if b then bnd (evE C elt e3) fun t e4 => match t with
    | .val x => some (.ok (some x) e4)
    | .bor _ => none
  else some (.ok none e3)
theorem SR.back {K : PySem.W.Frag} {H : Hp} {env : Env} {σ : L2.St} {T : List (D × V)} {d : D} {v : V} {i : Nat} (h : SR K H0 P0 env σ ((d, v) :: T) H) (hv : σ[i]? = some (some v)) : SR K H0 P0 (env.set i d) σ T H := by
  have := SR.asg (i := i) h
  rwa [set_self σ i (some v) hv] at this
theorem lc_core (ok : XOk C X W) {elt : E} {tg : Tg} {it : Itr} {cond : Eo} {own : List Nat} {σ : L2.St} {H : Hp} {Q : VK} (htg : ∀ i ∈ tgL tg, i ∈ own) (h : tE C W X.K H0 P0 (.lc elt tg it cond own) σ H Q) :
    tLc (tI C W X.K H0 P0 it) (gTg X.K tg) (tCnd C noW X.K H0 P0 cond) (tE C noW X.K H0 P0 elt) own σ H Q := by
  obtain ⟨env, T, r, s, ev, q, qx⟩ := h
  rw [evE] at ev
  rcases bnd_inv ev with ⟨c, e1, h1, rfl⟩ | ⟨pp, e1, h1, ev⟩
  · exact ⟨env, T, _, s, h1, (fun _ _ z => nomatch z), fun c e z H' s' => by cases z; exact qx _ _ rfl H' s'⟩
  refine ⟨env, T, _, s, h1, fun t' e1' z J hs H1 hlen s1 wk hbk => ?_, (fun _ _ z => nomatch z)⟩
  cases z
  cases hcl : C.L.len pp.2.length with
  | false => rw [hcl] at ev; cases ev
  | true =>
  rw [hcl] at ev
  have ev' : (match compGo (lcF C elt tg cond own) pp.2 e1 with
      | some (ds, e5) => some (R.ok (Tm.val (D.lst .ow ds)) (putBack it.bk pp.1 (kill own e5)))
      | none => none) = some r := ev
  cases hgo : compGo (lcF C elt tg cond own) pp.2 e1 with
  | none => rw [hgo] at ev'; cases ev'
  | some p5 =>
  obtain ⟨ds, e5⟩ := p5
  rw [hgo] at ev'
  cases ev'
  have hsz := ok.len _ hcl
  intro p hp
  refine ⟨fun i m H => ∃ env acc rest, SR X.K H0 P0 (kill own env) (L2.wipe σ own) (pp.1.zip hs ++ (D.lst .ow acc, V.ref p) :: T) H ∧ compGo (lcF C elt tg cond own) (pp.2.drop i) env = some (rest, e5) ∧ acc ++ rest = ds ∧ acc.length ≤ i ∧ m = pp.2.length - i, ⟨_, e1, [], ds, ?_, ?_, rfl, Nat.zero_le _, rfl⟩, ?_⟩
  · have s2 : SR X.K H0 P0 e1 σ ((D.lst .ow [], V.ref p) :: (pp.1.zip hs ++ T)) (L2.upd H1 p (.lst [])) := SR.newL (U := []) s1 hp fun fa sa r n dj => ⟨[], [], .nil, .nil, (fun _ z => nomatch z), (fun _ z => nomatch z)⟩
    exact SR.unroll (s2.wipe (wipe_wipe σ own))
  · rw [List.drop_zero]
    exact hgo
  rintro i m H ⟨env, acc, rest, s, hc, he, hacc, rfl⟩
  obtain ⟨w1, w2⟩ := wk _ _ _ H i s
  cases hd : pp.2[i]? with
  | none =>
    have hle : pp.2.length ≤ i := List.getElem?_eq_none_iff.mp hd
    rw [List.drop_eq_nil_of_le hle] at hc
    cases hc
    refine .inl ⟨w2 hle, q _ _ rfl _ _ ?_ trivial⟩
    rw [List.append_nil] at he
    subst he
    have s3 := SR.roll (s.rewipe (wipe_wipe σ own).symm)
    have s4 := SR.unroll (A := pp.1.zip hs) s3
    cases hb : it.bk with
    | none => exact SR.pop (W := pp.1.zip hs) s4
    | some j =>
      obtain ⟨v, rfl, hv⟩ := hbk j hb
      obtain ⟨d0, hd0⟩ : ∃ d0, pp.1 = [d0] := by
        match hp1 : pp.1, hlen with
        | [d0], _ => exact ⟨d0, rfl⟩
      rw [hd0] at s4 ⊢
      exact SR.back s4 hv
  | some d =>
    obtain ⟨go, y⟩ := w1 d hd
    rw [drop_cons hd, compGo] at hc
    have hlt := lt_of_get hd
    split at hc <;> first | (cases hc; done) | skip
    next o env1 hf =>
    split at hc <;> first | (cases hc; done) | skip
    next r' e2' hrest =>
    have hr1 := congrArg Prod.fst (Option.some.inj hc)
    have hr2 : e2' = e5 := congrArg Prod.snd (Option.some.inj hc)
    clear hc
    subst hr2
    dsimp only at hr1
    unfold lcF at hf
    obtain ⟨e2, hst, hf⟩ := obnd_inv hf
    refine .inr ⟨go, fun H' => ∃ env acc rest, SR X.K H0 P0 (kill own env) (L2.wipe σ own) (pp.1.zip hs ++ (D.lst .ow acc, V.ref p) :: T) H' ∧ compGo (lcF C elt tg cond own) (pp.2.drop (i + 1)) env = some (rest, e2') ∧ acc ++ rest = ds ∧ acc.length ≤ i + 1, fun H' ⟨env, acc, rest, a, b, c, d⟩ => ⟨pp.2.length - (i + 1), by omega, env, acc, rest, a, b, c, d, rfl⟩, fun x H' hy => ?_⟩
    refine gTg_ok (y x H' hy) hst fun σ2 hw s3 => ⟨(hw own htg).trans (wipe_wipe σ own), ?_⟩
    have hw2 : L2.wipe (L2.wipe σ own) own = L2.wipe σ2 own := (hw own htg).symm
    rcases bnd_inv hf with ⟨c, e3, h3, z⟩ | ⟨b, e3, h3, hf⟩
    · cases z
    refine ⟨e2, _, _, s3, h3, fun b' e3' z H3 s4 => ?_, (fun _ _ z => nomatch z)⟩
    cases z
    cases b with
    | false =>
      rw [if_neg Bool.false_ne_true]
      rw [if_neg Bool.false_ne_true] at hf
      cases hf
      exact ⟨_, acc, r', s4.wipe hw2, hrest, by rw [← he, ← hr1], by omega⟩
    | true =>
      rw [if_pos rfl]
      rw [if_pos rfl] at hf
      rcases bnd_inv hf with ⟨c, e4, h4, z⟩ | ⟨t, e4, h4, hf⟩
      · cases z
      cases t with
      | bor j => cases hf
      | val xd =>
      cases hf
      refine ⟨e3, _, _, s4, h4, fun t' e4' z yv H4 s5 _ => ?_, (fun _ _ z => nomatch z)⟩
      cases z
      have s6 : SR X.K H0 P0 env1 σ2 ((xd, yv) :: (D.lst .ow acc, V.ref p) :: (pp.1.zip hs ++ T)) H4 := by
        have := SR.roll (A := (xd, yv) :: pp.1.zip hs) s5
        exact SR.roll (A := [(D.lst .ow acc, V.ref p)]) this
      obtain ⟨a, us, ea, ha, hl, s7⟩ := s6.push
      cases ea
      refine ⟨us, ha, by omega, _, acc ++ [xd], r', ?_, hrest, by rw [← he, ← hr1]; simp, by simp; omega⟩
      exact SR.unroll (s7.wipe hw2)
theorem blk_ok (ok : XOk C X W) (s : Shared) (H : Hp) (scope : Scope) (cenv : PySem.Env) (fp : List Addr) : XOk C (X.blk s H scope cenv fp) noW where
  kit := ok.kit
  calm := ok.calm
  nd := ok.nd
  room := ok.room
  bi := ok.bi
  glb := ok.glb
  call := ok.call
  tk := Takes.imp takes0 fun c d σ H z => (by obtain ⟨_, _, _, _, _, z⟩ := z; exact z)
  len := ok.len
  mul := ok.mul
  eq := ok.eq
  rng := ok.rng
  dig := ok.dig
  seer := ok.seer
  tree := ok.tree
  deep := ok.deep
  rse := ok.rse
  exm := ok.exm
  frm := ok.frm
end
end TV
namespace TV
open PySem PySem.Spec PyProof.Rows L2
section
variable {C : Ctx} {W : Wish} {X : Cx} {H0 : Hp} {P0 : Addr → Prop}

theorem few {es : List Expr} {env : PySem.Env} {pos : Pos} : es.all notStar = true → es.length < 20 → ((backTo pos (starEach es env)).all (fun x => !x.1) && (backToKw pos (keywordEach [] env)).all (fun x => x.1.isSome) && decide (es.length + ([] : List Keyword).length + (if ([] : List Keyword).isEmpty then 0 else 1) < 30)) = true := by
  intro h hl
  have h1 : (backTo pos (starEach es env)).all (fun x => !x.1) = true := by
    have := star_all (env := env) (pos := pos) h
    rw [List.any_eq_false] at this
    exact List.all_eq_true.mpr fun x hx => by simpa using this x hx
  rw [h1]
  simp [keywordEach, backToKw]
  omega
/-- a method that changes a list, by values -/
def MutOk (X : Cx) (C : Ctx) (m : Mt) (r2 : V → List V → Hp → VK → Prop) : Prop :=
  ∀ (H : Hp) (a : Addr) (us vs : List V) (ds as ds' : List D) (f s fw sw : List Addr), H a = some (.lst us) → Reps X.K H us ds f s → Reps X.K H vs as fw sw → mutD C.L m ds as = some ds' →
    ∃ us', (∀ Q : VK, (∀ v, Q v (L2.upd H a (.lst us'))) → r2 (.ref a) vs H Q) ∧ ∀ f s fw sw, Reps X.K H us ds f s → Reps X.K H vs as fw sw → (f ++ fw).Nodup →
      ∃ f' s', Reps X.K H us' ds' f' s' ∧ f'.Nodup ∧ (∀ b ∈ f', b ∈ f ++ fw) ∧ (∀ b ∈ s', b ∈ s ++ sw)
theorem mk_append (ok : XOk C X W) : MutOk X C .append rAppend := fun H a us vs ds as ds' f s fw sw ha r rw_ h => by
  simp only [mutD] at h
  unfold mtAppend at h
  split at h
  · next d =>
    cases hc : C.L.len (ds.length + 1) with
    | false => rw [hc] at h; cases h
    | true =>
      rw [hc] at h
      cases h
      obtain ⟨v, f2, s2, rfl, r1⟩ := reps1 rw_
      have hl := ok.len _ hc
      exact ⟨us ++ [v], fun Q q => ⟨a, us, v, rfl, rfl, ha, by rw [r.length]; omega, q _⟩, fun f s fw sw r rw_ n => ⟨f ++ fw, s ++ sw, Reps.append r rw_, n, fun _ z => z, fun _ z => z⟩⟩
  · cases h
theorem noOw_of {K : PySem.W.Frag} {H : Hp} {v : V} {k : LK} {es : List D} {f s : List Addr} (r : Rep K H v (.lst k es) f s) (hk : k = .ow ∨ k = .sh) (hn : noOwL es = true) : ∃ b zs s', v = .ref b ∧ H b = some (.lst zs) ∧ Reps K H zs es [] s' ∧ ∀ c ∈ s', c ∈ s := by
  cases r with
  | sh hh rr => exact ⟨_, _, _, rfl, hh, rr, fun _ z => List.mem_cons_of_mem _ z⟩
  | ow hh rr => have := Reps.noOw rr hn; subst this; exact ⟨_, _, _, rfl, hh, rr, fun _ z => z⟩
  | fz hh rr => rcases hk with z | z <;> cases z
theorem mk_extend (ok : XOk C X W) : MutOk X C .extend rExtend := fun H a us vs ds as ds' f s fw sw ha r rw_ h => by
  have core : ∀ {k : LK} {es : List D}, as = [.lst k es] → (k = .ow ∨ k = .sh) → (if noOwL es then bif C.L.len (ds.length + es.length) then some (ds ++ es) else none else none) = some ds' → ∃ us', (∀ Q : VK, (∀ v, Q v (L2.upd H a (.lst us'))) → rExtend (.ref a) vs H Q) ∧ ∀ f s fw sw, Reps X.K H us ds f s → Reps X.K H vs as fw sw → (f ++ fw).Nodup → ∃ f' s', Reps X.K H us' ds' f' s' ∧ f'.Nodup ∧ (∀ b ∈ f', b ∈ f ++ fw) ∧ (∀ b ∈ s', b ∈ s ++ sw) := by
    intro k es e hk hw
    subst e
    split at hw
    · next hn =>
      cases hc : C.L.len (ds.length + es.length) with
      | false => rw [hc] at hw; cases hw
      | true =>
        rw [hc] at hw
        cases hw
        cases rw_ with
        | cons r1 r2 =>
          cases r2
          obtain ⟨b, zs, s', rfl, hb, r3, k3⟩ := noOw_of r1 hk hn
          have hl := ok.len _ hc
          refine ⟨us ++ zs, fun Q q => ⟨a, b, us, zs, rfl, rfl, ha, hb, by rw [r.length, r3.length]; omega, q _⟩, fun f s fw sw r rw2 n => ?_⟩
          cases rw2 with
          | cons r1 r2 =>
            cases r2
            obtain ⟨b', zs', s', eb, hb', r3, k3⟩ := noOw_of r1 hk hn
            cases eb
            rw [hb] at hb'
            cases hb'
            refine ⟨f ++ [], s ++ s', Reps.append r r3, by rw [List.append_nil]; exact (List.nodup_append.mp n).1, fun c z => ?_, fun c z => ?_⟩
            · rw [List.append_nil] at z; exact List.mem_append_left _ z
            · rcases List.mem_append.mp z with z | z
              · exact List.mem_append_left _ z
              · exact List.mem_append_right _ (List.mem_append_left _ (k3 c z))
    · cases hw
  simp only [mutD] at h
  unfold mtExtend at h
  split at h
  · exact core rfl (.inl rfl) h
  · exact core rfl (.inr rfl) h
  · cases h
theorem mk_clear : MutOk X C .clear rClear := fun H a us vs ds as ds' f s fw sw ha r rw_ h => by
  simp only [mutD] at h
  unfold mtClear at h
  split at h
  · cases h
    cases rw_
    exact ⟨[], fun Q q => ⟨a, us, rfl, rfl, ha, q _⟩, fun f s fw sw r rw_ n => ⟨[], [], .nil, .nil, (fun _ z => nomatch z), (fun _ z => nomatch z)⟩⟩
  · cases h
theorem mk_pop : MutOk X C .pop rPop := fun H a us vs ds as ds' f s fw sw ha r rw_ h => by
  simp only [mutD] at h
  unfold mtPop at h
  split at h
  · split at h
    · cases h
    · next hne =>
      cases h
      cases rw_
      have hd : ds ≠ [] := by intro z; rw [z] at hne; exact hne rfl
      obtain ⟨ds0, d, rfl⟩ : ∃ ds0 d, ds = ds0 ++ [d] := ⟨ds.dropLast, ds.getLast hd, (List.dropLast_concat_getLast hd).symm⟩
      obtain ⟨va, vb, fa, fb, sa, sb, rfl, rfl, rfl, r1, r2⟩ := Reps.split r
      obtain ⟨v, _, _, rfl, _⟩ := reps1 r2
      refine ⟨va, fun Q q => ⟨a, va ++ [v], v, rfl, rfl, ha, by simp, by simpa using q v⟩, fun f s fw sw r rw2 n => ?_⟩
      obtain ⟨va', vb', fa, fb, sa, sb, ev, rfl, rfl, r1', r2'⟩ := Reps.split r
      obtain ⟨e1, e2⟩ := List.append_inj ev (by rw [r1.length, r1'.length])
      subst e1
      have n' := List.nodup_append.mp (List.nodup_append.mp n).1
      exact ⟨fa, sa, by simpa using r1', n'.1, fun c z => List.mem_append_left _ (List.mem_append_left _ z), fun c z => List.mem_append_left _ (List.mem_append_left _ z)⟩
  · cases h
def rInsert : V → List V → Hp → VK → Prop := fun x vs H Q => ∃ (l : Addr) (xs : List V) (i : Int) (y : V), x = .ref l ∧ vs = [.int i, y] ∧ H l = some (.lst xs) ∧ xs.length < sizeLine ∧ 0 ≤ i ∧ i < 2 ^ 63 ∧
    Q .non (L2.upd H l (.lst (xs.take i.toNat ++ [y] ++ xs.drop i.toNat)))
theorem mk_insert (ok : XOk C X W) : MutOk X C .insert rInsert := fun H a us vs ds as ds' f s fw sw ha r rw_ h => by
  simp only [mutD] at h
  unfold mtInsert at h
  split at h
  · next k d =>
    split at h
    · next hk =>
      cases hc : C.L.len (ds.length + 1) with
      | false => rw [hc] at h; cases h
      | true =>
        rw [hc] at h
        cases h
        have hl := ok.len _ hc
        have hsz : sizeLine = 2 ^ 24 := rfl
        cases rw_ with
        | cons r1 r2 =>
          cases r1
          cases r2 with
          | cons rv r3 =>
            cases r3
            rename_i v fv sv
            have ul : us.length = ds.length := r.length
            refine ⟨us.take k.toNat ++ [v] ++ us.drop k.toNat, fun Q q => ⟨a, us, k, v, rfl, rfl, ha, by omega, hk.1, by omega, q _⟩, fun f s fw sw r rw2 n => ?_⟩
            cases rw2 with
            | cons r1 r2 =>
              cases r1
              cases r2 with
              | cons rv r3 =>
                cases r3
                rename_i fv sv
                have e1 : ds = ds.take k.toNat ++ ds.drop k.toNat := (List.take_append_drop _ _).symm
                rw [e1] at r
                obtain ⟨va, vb, fa, fb, sa, sb, eu, rfl, rfl, ra, rb⟩ := Reps.split r
                have la : va.length = k.toNat := by rw [ra.length, List.length_take]; omega
                have t1 : us.take k.toNat = va := by rw [eu, ← la]; simp
                have t2 : us.drop k.toNat = vb := by rw [eu, ← la]; simp
                refine ⟨(fa ++ (fv ++ [])) ++ fb, (sa ++ (sv ++ [])) ++ sb, by rw [t1, t2]; exact Reps.append (Reps.append ra (.cons rv .nil)) rb, ?_, fun c z => ?_, fun c z => ?_⟩
                · have pm : ((fa ++ (fv ++ [])) ++ fb).Perm ((fa ++ fb) ++ ([] ++ (fv ++ []))) := by
                    simp only [List.append_nil, List.nil_append, List.append_assoc]
                    exact List.Perm.append_left fa List.perm_append_comm
                  exact pm.nodup_iff.mpr n
                · simp only [List.append_nil, List.mem_append, List.nil_append] at z ⊢
                  rcases z with (z | z) | z
                  · exact .inl (.inl z)
                  · exact .inr z
                  · exact .inl (.inr z)
                · simp only [List.append_nil, List.mem_append, List.nil_append] at z ⊢
                  rcases z with (z | z) | z
                  · exact .inl (.inl z)
                  · exact .inr z
                  · exact .inl (.inr z)
    · cases h
  · cases h
theorem mut_go {m : Mt} {r2 : V → List V → Hp → VK → Prop} {i : Nat} {ees : Es} {DD : Ends} {σ : L2.St} {H : Hp} (k : MutOk X C m r2) (h : tS C W X.K H0 P0 (.mut0 m i ees) DD σ H) :
    ∃ v, σ[i]? = some (some v) ∧ tyV X.K "list" v H ∧ tEs C W X.K H0 P0 ees σ H fun vs H1 => r2 v vs H1 fun _ H2 => DD.nx σ H2 := by
  obtain ⟨env, T, r, s, ev, p⟩ := h
  rw [evS] at ev
  split at ev
  · cases ev
  next how =>
  have how : owAt i env = true := by simpa using how
  have ⟨v, hv, hty⟩ : ∃ v, σ[i]? = some (some v) ∧ tyV X.K "list" v H := by
    unfold owAt at how
    split at how
    · next ds hi =>
      obtain ⟨v, f, s', hv, rv⟩ := s.slot hi rfl
      obtain ⟨a, us, _, _, rfl, hq, _⟩ := rep_lst rv
      exact ⟨_, hv, .inl ⟨rfl, us, hq⟩⟩
    · cases how
  refine ⟨v, hv, hty, ?_⟩
  rcases sbnd_inv ev with ⟨c, e1, h1, rfl⟩ | ⟨ts, e1, h1, ev⟩
  · exact ⟨env, T, _, s, h1, (fun _ _ z => nomatch z), fun c e z H' s' => by cases z; exact p σ H' s'⟩
  refine ⟨env, T, _, s, h1, fun t' e1' z vs H1 s1 a1 => ?_, (fun _ _ z => nomatch z)⟩
  cases z
  split at ev <;> first | (cases ev; done) | skip
  next as ds has hds =>
  split at ev <;> first | (cases ev; done) | skip
  next ds' hm =>
  cases ev
  obtain ⟨k1, k2⟩ := tmz_vals a1 has
  obtain ⟨a, us, hσ, ha, hl, kk⟩ := SR.mut (A := tmz ts vs) s1 hds
  rw [hv] at hσ
  cases hσ
  -- some reading of the list and of what waits
  obtain ⟨fp, sp, rr, nn, dj, _⟩ := s1.sr
  rw [List.map_append, List.map_append, List.append_assoc, List.append_assoc] at rr
  obtain ⟨va, vb, fw, fb, sw, sb, ee, rfl, rfl, rA, rB⟩ := Reps.split rr
  obtain ⟨e1', e2'⟩ := List.append_inj ee (by rw [rA.length]; simp)
  subst e1' e2'
  obtain ⟨w, f0, s0, fr, sr, g1, q, p1, p2⟩ := Reps.get (i := T.length + i) rB (by rw [slot_get (j := 0)]; exact hds)
  rw [slot_getV, svs_get hv hds rfl] at g1
  cases g1
  cases q with
  | ow hh rq =>
    rename_i us2 f1
    have : us2 = us := by rw [ha] at hh; cases hh; rfl
    subst this
    rw [k1, k2] at rA
    have nA := List.nodup_append.mp nn
    have nB := List.nodup_append.mp (p1.nodup_iff.mp nA.2.1)
    have nf := List.nodup_cons.mp nB.1
    obtain ⟨us', hr, hk⟩ := k H1 a us2 vs ds as ds' f1 s0 fw sw ha rq rA hm
    refine hr _ fun v => p σ _ (kk us' ds' fun f s fw' sw' r1 r2 n => ?_)
    rw [k1, k2] at r2
    exact hk f s fw' sw' r1 r2 n
/-- x.m(e, ..), x.m() as a statement -/
theorem sS_mut (ok : XOk C X W) {m : Mt} {name : Str} (hm : name = (match m with | .append => "append" | .extend => "extend" | .clear => "clear" | .pop => "pop" | .insert => "insert" : Str)) {i : Nat} {x : Str} {a : Expr} {es : List Expr} {p apos cpos pos : Pos} {ees : Es} (h : PE X (.Name x p) (tVar i)) (ha : PA X (a :: es) (tEs C W X.K H0 P0 ees)) (hst : (a :: es).all notStar = true) (hlt : (a :: es).length < 20)
    (hline : (apos.endLine == cpos.line) = true) (hm2 : m ≠ .clear ∧ m ≠ .pop) : PS X (.Expr (.Call (.Attribute (.Name x p) name apos) (a :: es) [] cpos) pos) (tS C W X.K H0 P0 (.mut0 m i ees)) := by
  have st := hst
  rw [List.all_cons] at st
  have s1 := star_cons (es := es) (env := X.env) (and2 st).1
  have s2 := star_all (env := X.env) (pos := cpos) (and2 st).2
  have fw := few (env := X.env) (pos := cpos) hst hlt
  subst hm
  cases m with
  | append => exact (ps_expr (pe_bm PySem.F.plainAttrs_list PySem.F.slot_list_append PySem.F.type_list_append mt_append h ha rfl fw hline s1 s2) rfl).imp fun DD σ H hh => mut_go (mk_append ok) hh
  | extend => exact (ps_expr (pe_bm PySem.F.plainAttrs_list PySem.F.slot_list_extend PySem.F.type_list_extend mt_extend h ha rfl fw hline s1 s2) rfl).imp fun DD σ H hh => mut_go (mk_extend ok) hh
  | insert => exact (ps_expr (pe_bm (r := rInsert) PySem.F.plainAttrs_list PySem.F.slot_list_insert PySem.F.type_list_insert mt_insert h ha rfl fw hline s1 s2) rfl).imp fun DD σ H hh => mut_go (mk_insert ok) hh
  | clear => exact absurd rfl hm2.1
  | pop => exact absurd rfl hm2.2
theorem sS_mutN {m : Mt} {name : Str} (hm : name = (match m with | .append => "append" | .extend => "extend" | .clear => "clear" | .pop => "pop" | .insert => "insert" : Str)) {i : Nat} {x : Str} {p apos cpos pos : Pos} (h : PE X (.Name x p) (tVar i))
    (hline : (apos.endLine == cpos.line) = true) (hm2 : m = .clear ∨ m = .pop) : PS X (.Expr (.Call (.Attribute (.Name x p) name apos) [] [] cpos) pos) (tS C W X.K H0 P0 (.mut0 m i .nil)) := by
  have nil : ∀ {v : V} {H : Hp} {σ : L2.St} {r2 : V → List V → Hp → VK → Prop} {Q : VK}, tEs C W X.K H0 P0 .nil σ H (fun vs H1 => r2 v vs H1 Q) → r2 v [] H Q := fun {v H σ r2 Q} ⟨env, T, r, s, e, q, _⟩ => by
    rw [evEs] at e
    cases e
    exact q _ _ rfl [] H s trivial
  subst hm
  rcases hm2 with rfl | rfl
  · refine (ps_expr (pe_bm0 PySem.F.plainAttrs_list PySem.F.slot_list_clear PySem.F.type_list_clear mt_clear h rfl hline) rfl).imp fun DD σ H hh => ?_
    obtain ⟨v, hv, ht, hq⟩ := mut_go mk_clear hh
    exact ⟨v, hv, ht, nil hq⟩
  · refine (ps_expr (pe_bm0 PySem.F.plainAttrs_list PySem.F.slot_list_pop PySem.F.type_list_pop mt_pop h rfl hline) rfl).imp fun DD σ H hh => ?_
    obtain ⟨v, hv, ht, hq⟩ := mut_go mk_pop hh
    exact ⟨v, hv, ht, nil hq⟩

def setsV : List (Nat × D) → L2.St → L2.St
  | [], σ => σ
  | (i, d) :: h, σ => setsV h (σ.set i (some (match d with | .bl b => .bl b | .int n => .int n | .str x => .str x | _ => .non)))
/-- the suite's statements -/
inductive SetsAt (X : Cx) : List Stmt → List (Nat × D) → Prop where
  | nil : SetsAt X [] []
  | cons {x : Str} {p pos cp : Pos} {i : Nat} {b : Bool} {j : Nat} {r : List Stmt} {h : List (Nat × D)} (hi : X.N[i]? = some x) (hx : X.env.scope.names.lookup x = some .local) (hr : SetsAt X r h) : SetsAt X (.Assign [.Name x p] (.Constant (.bool b) j cp) pos :: r) ((i, .bl b) :: h)
def tSets (h : List (Nat × D)) : TS := fun D σ H => D.nx (setsV h σ) H
theorem ps_sets {Y : Cx} (nd : Y.N.Nodup) : ∀ {st : List Stmt} {h : List (Nat × D)}, SetsAt Y st h → PSs Y st (tSets h)
  | _, _, .nil => pss_nil
  | _, _, .cons hi hx hr => (pss_cons (ps_set nd hi (.inl hx) pe_bl rfl (.inr hx)) (ps_sets nd hr)).imp fun D σ H q => q
theorem SR.sets {K : PySem.W.Frag} {H : Hp} {T : List (D × V)} : ∀ {st : List Stmt} {h : List (Nat × D)} {env : Env} {σ : L2.St}, SetsAt X st h → SR K H0 P0 env σ T H → SR K H0 P0 (h.foldl (fun e p => e.set p.1 p.2) env) (setsV h σ) T H
  | _, _, env, σ, .nil, s => s
  | _, _, env, σ, .cons (i := i) (b := b) (h := h) hi hx hr, s => by
    have s2 := SR.asg (i := i) (s.put (.bl b))
    exact SR.sets (env := env.set i (.bl b)) hr s2
theorem sets_suite (a : Addr) (pn : List (Addr × Obj)) : ∀ {st : List Stmt} {h : List (Nat × D)}, SetsAt X st h → SetsAt (X.suite a pn) st h
  | _, _, .nil => .nil
  | _, _, .cons hi hx hr => .cons hi hx (sets_suite a pn hr)
theorem tr_ok (ok : SOk C X W) (pn : List (Addr × Obj)) (xe : Value → Shared → Prop) (W' : Wish) (tk : Takes (X.tr pn xe) (WC X.mg W')) (po : PassesOwn (model X.prog X.w) X.A X.env xe) : SOk C (X.tr pn xe) W' where
  kit := ok.kit
  calm := ok.calm
  nd := ok.nd
  room := ok.room
  bi := ok.bi
  glb := ok.glb
  call := ok.call
  tk := tk
  len := ok.len
  mul := ok.mul
  eq := ok.eq
  rng := ok.rng
  dig := ok.dig
  seer := ok.seer
  tree := ok.tree
  deep := ok.deep
  rse := ok.rse
  exm := ok.exm
  frm := ok.frm
  stk := ok.stk
  fra := ok.fra
  po := po
theorem sS_try (ok : SOk C X W) {body : List Stmt} {st0 : Stmt} {st : List Stmt} {x : Str} {np pos pos' : Pos} {sb : Ss} {h : List (Nat × D)} (hg : Gl X x) (hdb : (x == ("__debug__" : Str)) = false) (hcx : C.exc x x = true)
    (hb : ∀ (W' : Wish) (pn : List (Addr × Obj)) (xe : Value → Shared → Prop), SOk C (X.tr pn xe) W' → PSs (X.tr pn xe) body (tSs C W' X.K H0 P0 sb)) (hs : SetsAt X (st0 :: st) h) :
    PS X (.Try body [.ExceptHandler (some (.Name x np)) none (st0 :: st) pos'] [] [] pos) (tS C W X.K H0 P0 (.try1 sb x h)) := by
  obtain ⟨a0, _, hm0, hm1, _⟩ := ok.exm x x hcx
  refine (ps_try_only (c := .ref a0) (tb := fun W' => tSs C (fun c σ H => ∀ a, X.mg c = some (.ref a) → W' (.ref a) none σ H) X.K H0 P0 sb) (ts := fun _ _ _ => tSets h) (Wout := WC X.mg W) ok.stk ok.fra ⟨hg, hdb, .inl hm0⟩ ok.tk
    (fun W' pn xe tk po => hb _ pn xe (tr_ok ok pn xe _ (Takes.imp tk fun c d σ H ⟨hd, n, a, e, hm, hw⟩ => by subst e; subst hd; exact hw a hm) po)) (fun a oe cls d pn _ _ => ps_sets (Y := X.suite a ((a, oe) :: pn)) ok.nd (sets_suite a _ hs))).imp fun DD σ H ⟨env, T, r, s, ev, p⟩ => ?_
  rw [evS] at ev
  split at ev
  · next c e hbody =>
    split at ev
    · next hc =>
      cases ev
      refine ⟨env, T, _, s, hbody, fun σ' H' s' a hm => ?_⟩
      obtain ⟨b1, b2, m1, m2, hex⟩ := ok.exm c x (and2 hc).1
      rw [hm] at m1
      cases m1
      rw [hm0] at m2
      cases m2
      exact ⟨true, hex, fun _ a' ha' => p _ _ (SR.sets hs s'), fun z => nomatch z⟩
    · cases ev
  · next hne =>
    cases r with
    | nx e => exact ⟨env, T, _, s, ev, p⟩
    | rt d => exact ⟨env, T, _, s, ev, p⟩
    | bk e => exact ⟨env, T, _, s, ev, p⟩
    | ct e => exact ⟨env, T, _, s, ev, p⟩
    | ex c e => exact absurd ev (hne c e)
end
end TV
namespace TV
open PySem PySem.Spec PyProof.Rows L2

structure CC where
  N : List Str
  sc : Scope
  fn : Str → Bool
def okName (x : Str) : Bool := !(x == ("__debug__" : Str)) && !(x == ("__classdict__" : Str))
def visB (c : CC) (i : Nat) (x : Str) : Bool := decide (c.N[i]? = some x) && okName x && (match c.sc.names.lookup x with | some .local => true | some .cell => true | some .free => true | _ => false)
def locB (c : CC) (i : Nat) (x : Str) : Bool := decide (c.N[i]? = some x) && (match c.sc.names.lookup x with | some .local => true | some .cell => c.fn x | _ => false)
/-- a block of a comprehension -/
def CC.blk (c : CC) (scope : Scope) : CC := ⟨c.N, relS scope c.sc, fun x => scope.names.lookup x == some .cell⟩
def gloB (c : CC) (x : Str) : Bool := okName x && (match c.sc.names.lookup x with | some .globalImplicit => true | _ => false)
def litB : D → Const → Bool
  | .non, .none => true
  | .bl b, .bool b' => b == b'
  | .int i, .int j => decide (i = j)
  | .str x, .str y => decide (x = y)
  | _, _ => false
def dctB : D → Expr → Bool
  | .dct, .Dict [some (.Constant (.str _) _ _)] [.Constant (.str _) _ _] _ => true
  | _, _ => false
def binB : Operator → Bool
  | .Add => true
  | .Sub => true
  | .Mult => true
  | .FloorDiv => true
  | .Mod => true
  | .Pow => true
  | _ => false
def cmpB : CmpOp → Bool
  | .Lt => true
  | .LtE => true
  | .Gt => true
  | .GtE => true
  | .Eq => true
  | .NotEq => true
  | .Is => true
  | .IsNot => true
  | .In => true
  | .NotIn => true
def notSet : Expr → Bool
  | .Set _ _ _ => false
  | _ => true
def notSlice : Expr → Bool
  | .Slice _ _ _ _ => false
  | _ => true
def notTup : Expr → Bool
  | .Tuple _ _ _ => false
  | _ => true
def isLC : Expr → Bool
  | .ListComp _ _ _ _ => true
  | _ => false
def notCompr : Expr → Bool
  | .ListComp _ _ _ _ => false
  | .SetComp _ _ _ _ => false
  | .DictComp _ _ _ _ _ => false
  | _ => true
/-- not a test of its own form -/
def plainT : Expr → Bool
  | .UnaryOp .Not _ _ => false
  | .BoolOp _ _ _ => false
  | .IfExp _ _ _ _ => false
  | .Compare _ _ _ _ => false
  | _ => true
def ownP (c : CC) (own : List Nat) : List (Str × Nat) := own.map fun i => ((c.N[i]?).getD ⟨#[]⟩, i)
def namesB (c : CC) : List Expr → List Nat → Bool
  | [], [] => true
  | .Name x _ :: es, i :: is => locB c i x && namesB c es is
  | _, _ => false
def tgB (c : CC) : Tg → Expr → Bool
  | .one i, .Name x _ => locB c i x
  | .many is, .Tuple es _ _ => namesB c es is
  | _, _ => false

/-- what an expression of the core is held against: an expression, or the rest of an and, an or -/
inductive Ag where
  | e (x : Expr)
  | l (op : BoolOp) (xs : List Expr)
def norm : Ag → Ag
  | .l _ [.BoolOp op xs _] => .l op xs
  | .l _ [x] => .e x
  | .e (.BoolOp op xs _) => .l op xs
  | a => a
section
variable (dd : Str → Nat → Bool)
mutual
def chk : E → CC → Ag → Bool
  | .mv i, c, a => match norm a with
    | .e (.Name x _) => visB c i x
    | _ => false
  | .fr i, c, a => match norm a with
    | .e (.Name x _) => visB c i x
    | _ => false
  | .bo i, c, a => match norm a with
    | .e (.Name x _) => visB c i x
    | _ => false
  | .lit d, c, a => match norm a with
    | .e (.Constant k _ _) => litB d k
    | .e e => dctB d e
    | _ => false
  | .glb g, c, a => match norm a with
    | .e (.Name x _) => decide (g = x) && gloB c x
    | _ => false
  | .shr e, c, a => match norm a with
    | .e x => chk e c (.e x)
    | _ => false
  | .bin op a b, c, t => match norm t with
    | .e (.BinOp x op' y _) => decide (op = op') && binB op && chk a c (.e x) && chk b c (.e y)
    | _ => false
  | .neg a, c, t => match norm t with
    | .e (.UnaryOp .USub x _) => chk a c (.e x)
    | _ => false
  | .not a, c, t => match norm t with
    | .e (.UnaryOp .Not x _) => chk a c (.e x)
    | _ => false
  | .and a b, c, t => match norm t with
    | .l .And (x :: y :: rest) => chk a c (.e x) && chk b c (.l .And (y :: rest))
    | _ => false
  | .or a b, c, t => match norm t with
    | .l .Or (x :: y :: rest) => chk a c (.e x) && chk b c (.l .Or (y :: rest))
    | _ => false
  | .cmp op a b, c, t => match norm t with
    | .e (.Compare x [op'] [y] _) => decide (op = op') && cmpB op && notSet y && chk a c (.e x) && chk b c (.e y)
    | _ => false
  | .ix a i, c, t => match norm t with
    | .e (.Subscript x y _) => notSlice y && chk a c (.e x) && chk i c (.e y)
    | _ => false
  | .pth _ _ _, _, _ => false
  | .sl a lo hi, c, t => match norm t with
    | .e (.Subscript x (.Slice l h none _) _) => chk a c (.e x) && chkO lo c l && chkO hi c h
    | _ => false
  | .tup es, c, t => match norm t with
    | .e (.Tuple xs _ _) => chkL es c xs && decide (xs.length ≤ 1000)
    | _ => false
  | .lst es, c, t => match norm t with
    | .e (.List xs _) => chkL es c xs && decide (xs.length ≤ 1000)
    | _ => false
  | .call f es, c, t => match norm t with
    | .e (.Call (.Name x _) (y :: ys) [] _) => decide (f = x) && gloB c x && dd x (y :: ys).length && chkL es c (y :: ys)
    | _ => false
  | .bi f es, c, t => match norm t with
    | .e (.Call (.Name x _) (y :: ys) [] _) => decide (x = f.name) && gloB c x && chkL es c (y :: ys)
    | _ => false
  | .mt _ _ _, _, _ => false
  | .isi a ty, c, t => match norm t with
    | .e (.Call (.Name f _) [x, .Name y _] [] _) => decide (f = "isinstance") && decide (y = Str.ofString ty.name) && gloB c f && gloB c y && notStar x && chk a c (.e x)
    | _ => false
  | .pop i, c, t => match norm t with
    | .e (.Call (.Attribute (.Name x _) m ap) [] [] cp) => decide (m = "pop") && visB c i x && (ap.endLine == cp.line)
    | _ => false
  | .lrv e, c, t => match norm t with
    | .e (.Call (.Name f _) [.Call (.Name g _) [y] [] _] [] _) => decide (f = "list") && decide (g = "reversed") && gloB c f && gloB c g && notStar y && chk e c (.e y)
    | _ => false
  | .lrg a, c, t => match norm t with
    | .e (.Call (.Name f _) [.Call (.Name g _) [y] [] _] [] _) => decide (f = "list") && decide (g = "range") && gloB c f && gloB c g && notStar y && chk a c (.e y)
    | _ => false
  | .lc elt tg it cond own, c, t => match norm t with
    | .e (.ListComp x [⟨tgx, iter, ifs, 0⟩] scope _) => chkI it c tgx iter && notSet iter && tgB (c.blk scope) tg tgx && (tgL tg).all (own.contains ·) && chkC cond (c.blk scope) ifs && chk elt (c.blk scope) (.e x) && blkC c.N c.sc scope (ownP c own)
    | _ => false
def chkL : Es → CC → List Expr → Bool
  | .nil, _, xs => xs.isEmpty
  | .cons e es, c, xs => match xs with
    | x :: xs => notStar x && chk e c (.e x) && chkL es c xs
    | [] => false
def chkO : Eo → CC → Option Expr → Bool
  | .no, _, x => x.isNone
  | .so e, c, x => match x with
    | some x => chk e c (.e x)
    | none => false
def chkC : Eo → CC → List Expr → Bool
  | .no, _, xs => xs.isEmpty
  | .so e, c, xs => match xs with
    | [x] => chk e c (.e x)
    | _ => false
def chkI : Itr → CC → Expr → Expr → Bool
  | .list e, c, _, x => chk e c (.e x)
  | .str e, c, _, x => chk e c (.e x)
  | .tupi e, c, _, x => chk e c (.e x)
  | .brw i, c, _, x => match x with
    | .Name y _ => visB c i y
    | _ => false
  | .rg1 a, c, _, x => match x with
    | .Call (.Name f _) [y] [] _ => decide (f = "range") && gloB c f && notStar y && chk a c (.e y)
    | _ => false
  | .rg2 a b, c, _, x => match x with
    | .Call (.Name f _) [y, z] [] _ => decide (f = "range") && gloB c f && notStar y && notStar z && chk a c (.e y) && chk b c (.e z)
    | _ => false
  | .rg3 a b d, c, _, x => match x with
    | .Call (.Name f _) [y, z, w] [] _ => decide (f = "range") && gloB c f && notStar y && notStar z && notStar w && chk a c (.e y) && chk b c (.e z) && chk d c (.e w)
    | _ => false
  | .rev e, c, _, x => match x with
    | .Call (.Name f _) [y] [] _ => decide (f = "reversed") && gloB c f && notStar y && chk e c (.e y)
    | _ => false
  | .enum e, c, tg, x => match tg, x with
    | .Tuple _ _ _, .Call (.Name f _) [y] [] _ => decide (f = "enumerate") && gloB c f && notStar y && chk e c (.e y)
    | _, _ => false
  | .zip es, c, tg, x => match es with
    | .cons a (.cons b .nil) => match tg, x with
      | .Tuple _ _ _, .Call (.Name f _) [y, z] [] _ => decide (f = "zip") && gloB c f && notStar y && notStar z && chk a c (.e y) && chk b c (.e z)
      | _, _ => false
    | .cons a (.cons b (.cons d .nil)) => match tg, x with
      | .Tuple _ _ _, .Call (.Name f _) [y, z, w] [] _ => decide (f = "zip") && gloB c f && notStar y && notStar z && notStar w && chk a c (.e y) && chk b c (.e z) && chk d c (.e w)
      | _, _ => false
    | _ => false
end
end

section
variable {C : Ctx} {W : Wish} {X : Cx} {H0 : Hp} {P0 : Addr → Prop} {c : CC}
structure Fit (X : Cx) (c : CC) : Prop where
  N : X.N = c.N
  sc : X.env.scope = c.sc
  fn : X.fn = c.fn
theorem okName_of {x : Str} (h : okName x = true) : (x == ("__debug__" : Str)) = false ∧ (x == ("__classdict__" : Str)) = false := by
  obtain ⟨h1, h2⟩ := and2 h
  exact ⟨by simpa using h1, by simpa using h2⟩
theorem vis_of (F : Fit X c) {i : Nat} {x : Str} {p : Pos} (h : visB c i x = true) : PE X (.Name x p) (tVar i) := by
  obtain ⟨h, h3⟩ := and2 h
  obtain ⟨h1, h2⟩ := and2 h
  obtain ⟨d1, d2⟩ := okName_of h2
  refine pe_var (by rw [F.N]; exact of_decide_eq_true h1) ?_ d1 d2
  unfold Vis
  rw [F.sc]
  split at h3 <;> first | (cases h3; done) | skip
  · next e => exact .inl e
  · next e => exact .inr (.inl e)
  · next e => exact .inr (.inr e)
theorem glo_of (F : Fit X c) {x : Str} (h : gloB c x = true) : Gl X x ∧ (x == ("__debug__" : Str)) = false := by
  obtain ⟨h1, h2⟩ := and2 h
  refine ⟨?_, (okName_of h1).1⟩
  show X.env.scope.names.lookup x = some .globalImplicit
  rw [F.sc]
  split at h2
  · next e => exact e
  · cases h2
theorem loc_of (F : Fit X c) {i : Nat} {x : Str} (h : locB c i x = true) : X.N[i]? = some x ∧ L2.Loc X.env.scope x ∧ (X.fn x = true ∨ X.env.scope.names.lookup x = some .local) := by
  obtain ⟨h1, h2⟩ := and2 h
  refine ⟨by rw [F.N]; exact of_decide_eq_true h1, ?_⟩
  unfold L2.Loc
  rw [F.sc, F.fn]
  split at h2
  · next e => exact ⟨.inl e, .inr e⟩
  · next e => exact ⟨.inr e, .inl h2⟩
  · cases h2
theorem names_of (F : Fit X c) : ∀ {es : List Expr} {is : List Nat}, namesB c es is = true → NamesAt X es is
  | [], [], _ => .nil
  | e :: es, i :: is, h => by
    cases e <;> first | (simp [namesB] at h; done) | skip
    obtain ⟨h1, h2⟩ := and2 h
    obtain ⟨a, b, d⟩ := loc_of F h1
    exact .cons a b d (names_of F h2)
  | [], _ :: _, h => by simp [namesB] at h
  | e :: _, [], h => by cases e <;> simp [namesB] at h
theorem assignEach_len : ∀ (es : List Expr) (env : PySem.Env), (assignEach es env).length = es.length
  | [], _ => rfl
  | e :: es, env => by cases e <;> (simp only [assignEach]; rw [List.length_cons, List.length_cons, assignEach_len es env])
theorem names_star : ∀ {es : List Expr} {is : List Nat}, NamesAt X es is → (assignEach es X.env).findIdx? (·.1) = none
  | _, _, .nil => rfl
  | _, _, .cons hi hx hf r => by
    simp only [assignEach]
    rw [List.findIdx?_cons]
    simp [names_star r]
theorem pg_many (calm : X.calm = true) (nd : X.N.Nodup) {es : List Expr} {is : List Nat} {k : Nat} {p : Pos} (h : NamesAt X es is) : PG X (.Tuple es k p) (gTup X.K is.length (gNames is)) :=
  pg_tup calm (pgs_names nd h) (by rw [assignEach_len, namesAt_len h]) (names_star h)
theorem pg_manyL (calm : X.calm = true) (nd : X.N.Nodup) {es : List Expr} {is : List Nat} {k : Nat} {p : Pos} (h : NamesAt X es is) : PG X (.Tuple es k p) (gLst X.K is.length (gNames is)) :=
  pg_lst calm (pgs_names nd h) (by rw [assignEach_len, namesAt_len h]) (names_star h)
theorem tg_of (F : Fit X c) (calm : X.calm = true) (nd : X.N.Nodup) {tg : Tg} {x : Expr} (h : tgB c tg x = true) : PG X x (gTg X.K tg) := by
  cases tg with
  | one i =>
    cases x <;> first | (simp [tgB] at h; done) | skip
    obtain ⟨a, b, d⟩ := loc_of F h
    exact pg_name nd a b d
  | many is =>
    cases x <;> first | (simp [tgB] at h; done) | skip
    exact pg_many calm nd (names_of F h)
theorem lit_of {d : D} {k : Const} {j : Nat} {p : Pos} (h : litB d k = true) : PE X (.Constant k j p) (tE C W X.K H0 P0 (.lit d)) := by
  cases d <;> cases k <;> first | (simp [litB] at h; done) | skip
  · exact sE_lit pe_non fun _ => .non
  · next b b' => have : b = b' := by simpa [litB] using h
                 subst this; exact sE_lit pe_bl fun _ => .bl _
  · next i i' => have : i = i' := by simpa [litB] using h
                 subst this; exact sE_lit pe_int fun _ => .int _
  · next i i' => have : i = i' := by simpa [litB] using h
                 subst this; exact sE_lit pe_str fun _ => .str _
theorem dct_of {d : D} {e : Expr} (h : dctB d e = true) : PE X e (tE C W X.K H0 P0 (.lit d)) := by
  unfold dctB at h
  split at h
  · exact sE_dct
  · cases h
theorem notSet_of {e : Expr} {env : PySem.Env} (h : notSet e = true) : ∀ x, foldedSetIterable e env x = pure x := by
  intro x
  cases e <;> first | rfl | (simp [notSet] at h)
theorem plainT_of {e : Expr} {env : PySem.Env} (h : plainT e = true) : ∀ whole, isTrue e env whole = (do let v ← whole; standAt e.pos; holding [v] (truthy v)) := by
  intro whole
  cases e <;> first | rfl | (simp [plainT] at h; done) | skip
  rename_i op x p
  cases op <;> first | rfl | (simp [plainT] at h)
theorem notSlice_of {e : Expr} (h : notSlice e = true) : PlainIx e := by
  intro o i
  cases e <;> first | rfl | (simp [notSlice] at h)
end
end TV
namespace TV
open PySem PySem.Spec PyProof.Rows L2
section
variable {C : Ctx} {W : Wish} {X : Cx} {H0 : Hp} {P0 : Addr → Prop} {c : CC}

theorem sE_shr {ast : Expr} {e : E} (h : PE X ast (tE C W X.K H0 P0 e)) : PE X ast (tE C W X.K H0 P0 (.shr e)) := h.imp fun σ H Q ⟨env, T, r, s, ev, q, qx⟩ => by
  rw [evE] at ev
  rcases bnd_inv ev with ⟨c, e1, h1, rfl⟩ | ⟨t1, e1, h1, ev⟩
  · exact ⟨env, T, _, s, h1, (fun _ _ z => nomatch z), qx⟩
  refine ⟨env, T, _, s, h1, fun t' e1' z v1 H1 s1 a1 => ?_, (fun _ _ z => nomatch z)⟩
  cases z
  cases t1 with
  | bor i => cases ev
  | val d =>
    cases ev
    refine q _ _ rfl v1 H1 ?_ trivial
    refine SR.step (W := [(d, v1)]) (W' := [(d.share, v1)]) s1 (Same.refl H1) fun fa sa r n dj => ?_
    cases r with
    | cons r1 r2 =>
      cases r2
      obtain ⟨s', q', hs⟩ := Rep.share r1
      refine ⟨[] ++ [], s' ++ [], .cons q' .nil, .nil, (fun _ z => nomatch z), (fun _ z => nomatch z), fun a z => ?_⟩
      have z' : a ∈ s' := by simpa using z
      rcases hs a z' with z | z
      · exact .inr (.inl (List.mem_append_left _ z))
      · exact .inl (List.mem_append_left _ z)
theorem share_bl {d : D} {b : Bool} (h : d.share = .bl b) : d = .bl b := by
  cases d with
  | lst k ds => cases k <;> simp [D.share] at h
  | bl b' => exact h
  | _ => simp [D.share] at h
theorem sT_shr {ast : Expr} {e : E} (h : PT X ast (tT C W X.K H0 P0 e)) : PT X ast (tT C W X.K H0 P0 (.shr e)) := h.imp fun σ H Q ⟨env, T, r, s, ev, q, qx⟩ => by
  rw [evE] at ev
  rcases bnd_inv ev with ⟨c, e1, h1, rfl⟩ | ⟨t1, e1, h1, ev⟩
  · exact ⟨env, T, _, s, h1, (fun _ _ z => nomatch z), qx⟩
  cases t1 with
  | bor i => cases ev
  | val d =>
    cases ev
    refine ⟨env, T, _, s, h1, fun t' e1' z => ?_, (fun _ _ z => nomatch z)⟩
    cases z
    obtain ⟨b, hb, k⟩ := q _ _ rfl
    have hb' : d.share = .bl b := Option.some.inj hb
    exact ⟨b, congrArg Option.some (share_bl hb'), k⟩

theorem atom_flat {K : PySem.W.Frag} {H : Hp} {v : V} {d : D} {f s : List Addr} (h : atom d = true) (r : Rep K H v d f s) : flatV v = true := by
  cases r <;> first | rfl | (simp [atom] at h)
theorem atom_eqV {K : PySem.W.Frag} {H : Hp} {v w : V} {d e : D} {f s f' s' : List Addr} (h : atom d = true) (h' : atom e = true) (r : Rep K H v d f s) (r' : Rep K H w e f' s') : eqV v w = eqD d e := by
  cases r <;> first | (simp [atom] at h; done) | skip
  all_goals (cases r' <;> first | (simp [atom] at h'; done) | skip)
  all_goals simp [eqV, eqD, D.py, PyData.eqv]
theorem atom_in {K : PySem.W.Frag} {H : Hp} {v : V} {d : D} {f s : List Addr} (h : atom d = true) (r : Rep K H v d f s) : ∀ {vs : List V} {ds : List D} {fp sp : List Addr}, Reps K H vs ds fp sp → ds.all atom = true → vs.all flatV = true ∧ inV v vs = ds.any fun z => eqD z d
  | _, _, _, _, .nil, _ => ⟨rfl, rfl⟩
  | _, _, _, _, .cons r1 r2, a => by
    rw [List.all_cons] at a
    obtain ⟨a1, a2⟩ := and2 a
    obtain ⟨k1, k2⟩ := atom_in h r r2 a2
    refine ⟨by rw [List.all_cons, atom_flat a1 r1, k1]; rfl, ?_⟩
    unfold inV at k2 ⊢
    rw [List.any_cons, List.any_cons, k2, atom_eqV a1 h r1 r]
theorem pyL_any : ∀ (ds : List D) (a : D), ((pyL ds).any fun z => PyData.eqv z a.py) = ds.any fun z => eqD z a
  | [], _ => rfl
  | d :: ds, a => by rw [pyL, List.any_cons, List.any_cons, pyL_any ds a]; rfl
theorem ck_in (ok : XOk C X W) : CmpOk X H0 P0 (opCmp C.L .In) (fun x y H Q => rInD X.K x y H Q ∨ (rIn X.K false x y H Q ∨ (∃ (c : Nat) (z : Str), x = .str ⟨#[c]⟩ ∧ y = .str z ∧ Q (.bl (decide (c ∈ z.cps.toList))) H))) := fun H v1 v2 x y z f1 s1 f2 s2 Q r1 r2 hz => by
  cases y with
  | tup ds =>
    have hz' : (bif x.whole && wholeL ds && C.L.eq x && C.L.eq (.lst .sh ds) && atom x && ds.all atom then some (D.bl (ds.any fun z => eqD z x)) else none) = some z := by cases x <;> exact hz
    cases hc : x.whole && wholeL ds && C.L.eq x && C.L.eq (.lst .sh ds) && atom x && ds.all atom with
    | false => rw [hc] at hz'; cases hz'
    | true =>
      rw [hc] at hz'
      cases hz'
      obtain ⟨hc, h6⟩ := and2 hc
      obtain ⟨hc, h5⟩ := and2 hc
      cases r2 with
      | tup hq rs =>
        obtain ⟨k1, k2⟩ := atom_in h5 r1 rs h6
        exact ⟨_, rfl, fun q => .inr (.inl ⟨_, _, rfl, .inr hq, atom_flat h5 r1, k1, by rw [if_neg (by decide), k2]; exact q⟩)⟩
  | lst k ds =>
    have hz' : (bif x.whole && wholeL ds && C.L.eq x && C.L.eq (.lst .sh ds) then some (D.bl (ds.any fun z => eqD z x)) else none) = some z := by cases x <;> exact hz
    cases hc : x.whole && wholeL ds && C.L.eq x && C.L.eq (.lst .sh ds) with
    | false => rw [hc] at hz'; cases hz'
    | true =>
      rw [hc] at hz'
      cases hz'
      obtain ⟨hc, h4⟩ := and2 hc
      obtain ⟨hc, h3⟩ := and2 hc
      obtain ⟨h1, h2⟩ := and2 hc
      exact ⟨_, rfl, fun q => .inl ⟨x.py, pyL ds, rep_dp r1 h1, rep_dp (d := .lst k ds) r2 (by rw [D.whole]; exact h2), ok.eq _ h3, ok.eq _ h4, by rw [pyL_any]; exact q⟩⟩
  | str w =>
    cases x <;> first | (simp [opCmp] at hz; done) | skip
    rename_i u
    obtain ⟨⟨l⟩⟩ := u
    match l, hz, r1 with
    | [], hz, _ => simp [opCmp] at hz
    | [ch], hz, r1 =>
      simp only [opCmp, Option.some.injEq] at hz
      subst hz
      cases r1
      cases r2
      exact ⟨_, rfl, fun q => .inr (.inr ⟨ch, w, rfl, rfl, q⟩)⟩
    | _ :: _ :: _, hz, _ => simp [opCmp] at hz
  | _ => cases x <;> simp [opCmp] at hz
theorem ck_notin (ok : XOk C X W) : CmpOk X H0 P0 (opCmp C.L .NotIn) (fun x y H Q => rNotInD X.K x y H Q ∨ (rIn X.K true x y H Q ∨ (∃ (c : Nat) (z : Str), x = .str ⟨#[c]⟩ ∧ y = .str z ∧ Q (.bl (!decide (c ∈ z.cps.toList))) H))) := fun H v1 v2 x y z f1 s1 f2 s2 Q r1 r2 hz => by
  cases y with
  | tup ds =>
    have hz' : (bif x.whole && wholeL ds && C.L.eq x && C.L.eq (.lst .sh ds) && atom x && ds.all atom then some (D.bl (!ds.any fun z => eqD z x)) else none) = some z := by cases x <;> exact hz
    cases hc : x.whole && wholeL ds && C.L.eq x && C.L.eq (.lst .sh ds) && atom x && ds.all atom with
    | false => rw [hc] at hz'; cases hz'
    | true =>
      rw [hc] at hz'
      cases hz'
      obtain ⟨hc, h6⟩ := and2 hc
      obtain ⟨hc, h5⟩ := and2 hc
      cases r2 with
      | tup hq rs =>
        obtain ⟨k1, k2⟩ := atom_in h5 r1 rs h6
        exact ⟨_, rfl, fun q => .inr (.inl ⟨_, _, rfl, .inr hq, atom_flat h5 r1, k1, by rw [if_pos rfl, k2]; exact q⟩)⟩
  | lst k ds =>
    have hz' : (bif x.whole && wholeL ds && C.L.eq x && C.L.eq (.lst .sh ds) then some (D.bl (!ds.any fun z => eqD z x)) else none) = some z := by cases x <;> exact hz
    cases hc : x.whole && wholeL ds && C.L.eq x && C.L.eq (.lst .sh ds) with
    | false => rw [hc] at hz'; cases hz'
    | true =>
      rw [hc] at hz'
      cases hz'
      obtain ⟨hc, h4⟩ := and2 hc
      obtain ⟨hc, h3⟩ := and2 hc
      obtain ⟨h1, h2⟩ := and2 hc
      exact ⟨_, rfl, fun q => .inl ⟨x.py, pyL ds, rep_dp r1 h1, rep_dp (d := .lst k ds) r2 (by rw [D.whole]; exact h2), ok.eq _ h3, ok.eq _ h4, by rw [pyL_any]; exact q⟩⟩
  | str w =>
    cases x <;> first | (simp [opCmp] at hz; done) | skip
    rename_i u
    obtain ⟨⟨l⟩⟩ := u
    match l, hz, r1 with
    | [], hz, _ => simp [opCmp] at hz
    | [ch], hz, r1 =>
      simp only [opCmp, Option.some.injEq] at hz
      subst hz
      cases r1
      cases r2
      exact ⟨_, rfl, fun q => .inr (.inr ⟨ch, w, rfl, rfl, q⟩)⟩
    | _ :: _ :: _, hz, _ => simp [opCmp] at hz
  | _ => cases x <;> simp [opCmp] at hz

def Good (C : Ctx) (W : Wish) (X : Cx) (H0 : Hp) (P0 : Addr → Prop) (e : E) : Ag → Prop
  | .e x => PE X x (tE C W X.K H0 P0 e) ∧ PT X x (tT C W X.K H0 P0 e)
  | .l op xs => ∀ pos, PE X (.BoolOp op xs pos) (tE C W X.K H0 P0 e) ∧ PW X (.BoolOp op xs pos) (tT C W X.K H0 P0 e)
theorem good_norm {e : E} {a : Ag} (h : Good C W X H0 P0 e (norm a)) : Good C W X H0 P0 e a := by
  unfold norm at h
  split at h
  · next op0 op xs p =>
    intro pos
    cases op0
    · exact ⟨pe_one (h p).1, pw_and1 (h p).2.pt⟩
    · exact ⟨pe_one (h p).1, pw_or1 (h p).2.pt⟩
  · next op x hx =>
    intro pos
    cases op
    · exact ⟨pe_one h.1, pw_and1 h.2⟩
    · exact ⟨pe_one h.1, pw_or1 h.2⟩
  · next op xs p => exact ⟨(h p).1, (h p).2.pt⟩
  · exact h
def esLen : Es → Nat
  | .nil => 0
  | .cons _ es => esLen es + 1
theorem evEs_len : ∀ (es : Es) {env : TV.Env} {ts : List Tm} {env' : TV.Env}, evEs C es env = some (.ok ts env') → ts.length = esLen es
  | .nil, env, ts, env', h => by rw [evEs] at h; cases h; rfl
  | .cons e es, env, ts, env', h => by
    rw [evEs] at h
    rcases bnd_inv h with ⟨c, e1, h1, h2⟩ | ⟨t, e1, h1, h⟩
    · cases h2
    rcases bnd_inv h with ⟨c, e2, h1, h2⟩ | ⟨ts', e2, h2, h⟩
    · cases h2
    cases h
    rw [List.length_cons, evEs_len es h2]; rfl
variable {dd : Str → Nat → Bool}
theorem chkL_cons (dd : Str → Nat → Bool) (e : E) (es : Es) (c : CC) (xs : List Expr) : chkL dd (.cons e es) c xs = (match xs with
    | x :: xs => notStar x && chk dd e c (.e x) && chkL dd es c xs
    | [] => false) := by rfl
theorem chkO_so (dd : Str → Nat → Bool) (e : E) (c : CC) (x : Option Expr) : chkO dd (.so e) c x = (match x with
    | some x => chk dd e c (.e x)
    | none => false) := by rfl
theorem chkC_so (dd : Str → Nat → Bool) (e : E) (c : CC) (xs : List Expr) : chkC dd (.so e) c xs = (match xs with
    | [x] => chk dd e c (.e x)
    | _ => false) := by rfl
theorem chkI_brw (dd : Str → Nat → Bool) (i : Nat) (c : CC) (tg x : Expr) : chkI dd (.brw i) c tg x = (match x with
    | .Name y _ => visB c i y
    | _ => false) := by rfl
theorem chkI_rg1 (dd : Str → Nat → Bool) (a : E) (c : CC) (tg x : Expr) : chkI dd (.rg1 a) c tg x = (match x with
    | .Call (.Name f _) [y] [] _ => decide (f = "range") && gloB c f && notStar y && chk dd a c (.e y)
    | _ => false) := by rfl
theorem chkI_rg2 (dd : Str → Nat → Bool) (a b : E) (c : CC) (tg x : Expr) : chkI dd (.rg2 a b) c tg x = (match x with
    | .Call (.Name f _) [y, z] [] _ => decide (f = "range") && gloB c f && notStar y && notStar z && chk dd a c (.e y) && chk dd b c (.e z)
    | _ => false) := by rfl
theorem chkI_rg3 (dd : Str → Nat → Bool) (a b d : E) (c : CC) (tg x : Expr) : chkI dd (.rg3 a b d) c tg x = (match x with
    | .Call (.Name f _) [y, z, w] [] _ => decide (f = "range") && gloB c f && notStar y && notStar z && notStar w && chk dd a c (.e y) && chk dd b c (.e z) && chk dd d c (.e w)
    | _ => false) := by rfl
theorem chkI_rev (dd : Str → Nat → Bool) (e : E) (c : CC) (tg x : Expr) : chkI dd (.rev e) c tg x = (match x with
    | .Call (.Name f _) [y] [] _ => decide (f = "reversed") && gloB c f && notStar y && chk dd e c (.e y)
    | _ => false) := by rfl
theorem chkI_enum (dd : Str → Nat → Bool) (e : E) (c : CC) (tg x : Expr) : chkI dd (.enum e) c tg x = (match tg, x with
    | .Tuple _ _ _, .Call (.Name f _) [y] [] _ => decide (f = "enumerate") && gloB c f && notStar y && chk dd e c (.e y)
    | _, _ => false) := by rfl
theorem chkI_zip (dd : Str → Nat → Bool) (a b : E) (c : CC) (tg x : Expr) : chkI dd (.zip (.cons a (.cons b .nil))) c tg x = (match tg, x with
    | .Tuple _ _ _, .Call (.Name f _) [y, z] [] _ => decide (f = "zip") && gloB c f && notStar y && notStar z && chk dd a c (.e y) && chk dd b c (.e z)
    | _, _ => false) := by rfl
theorem chkI_zip3 (dd : Str → Nat → Bool) (a b d : E) (c : CC) (tg x : Expr) : chkI dd (.zip (.cons a (.cons b (.cons d .nil)))) c tg x = (match tg, x with
    | .Tuple _ _ _, .Call (.Name f _) [y, z, w] [] _ => decide (f = "zip") && gloB c f && notStar y && notStar z && notStar w && chk dd a c (.e y) && chk dd b c (.e z) && chk dd d c (.e w)
    | _, _ => false) := by rfl
theorem chkI_zipO (dd : Str → Nat → Bool) (es : Es) (c : CC) (tg x : Expr) (h : ∀ a b, es ≠ .cons a (.cons b .nil)) (h3 : ∀ a b d, es ≠ .cons a (.cons b (.cons d .nil))) : chkI dd (.zip es) c tg x = false := by
  cases es with
  | nil => rfl
  | cons a es =>
    cases es with
    | nil => rfl
    | cons b es =>
      cases es with
      | nil => exact absurd rfl (h a b)
      | cons d es =>
        cases es with
        | nil => exact absurd rfl (h3 a b d)
        | cons f es => rfl
theorem chkL_len : ∀ (es : Es) {c : CC} {xs : List Expr}, chkL dd es c xs = true → xs.length = esLen es
  | .nil, c, xs, h => by rw [chkL] at h; cases xs <;> simp at h; rfl
  | .cons e es, c, xs, h => by
    rw [chkL_cons] at h
    cases xs with
    | nil => simp at h
    | cons x xs =>
      obtain ⟨_, h2⟩ := and2 h
      rw [List.length_cons, chkL_len es h2]; rfl
theorem chkL_star : ∀ (es : Es) {c : CC} {xs : List Expr}, chkL dd es c xs = true → xs.all notStar = true
  | .nil, c, xs, h => by rw [chkL] at h; cases xs <;> simp at h; rfl
  | .cons e es, c, xs, h => by
    rw [chkL_cons] at h
    cases xs with
    | nil => simp at h
    | cons x xs =>
      obtain ⟨h1, h2⟩ := and2 h
      obtain ⟨h0, h1⟩ := and2 h1
      rw [List.all_cons, h0, chkL_star es h2]; rfl
theorem hes_of {es : Es} {xs : List Expr} (h : chkL dd es c xs = true) : ∀ env ts env', evEs C es env = some (.ok ts env') → ts.length = xs.length := fun env ts env' he => by
  rw [evEs_len es he, chkL_len es h]
theorem ownP_snd (own : List Nat) : (ownP c own).map (·.2) = own := by
  unfold ownP
  rw [List.map_map]
  exact List.map_id' own
theorem blkFit (F : Fit X c) (s : Shared) (H : Hp) (scope : Scope) (cl : List (Str × Addr)) (Cl : Addr) (fp : List Addr) : Fit (X.blk s H scope (compEnvC scope cl Cl X.env) fp) (c.blk scope) where
  N := F.N
  sc := by rw [CC.blk, ← F.sc]; rfl
  fn := rfl
theorem notBehind {op : CmpOp} {e : Expr} (h : notSet e = true) : behindInMarks op e = false := by
  cases e <;> first | rfl | (simp [notSet] at h)

mutual
theorem chk_e (hdd : ∀ f n, dd f n = true → C.isDef f n = true) : ∀ (e : E) {W : Wish} {X : Cx} {c : CC} {a : Ag}, XOk C X W → Fit X c → chk dd e c a = true → Good C W X H0 P0 e a
  | .mv i, W, X, c, a, ok, F, h => by
    rw [chk] at h
    refine good_norm ?_
    split at h
    · next x p hn =>
      rw [hn]
      have k := sE_mv (C := C) (W := W) (H0 := H0) (P0 := P0) (vis_of (p := p) F h)
      exact ⟨k, sT_val k fun _ => rfl⟩
    · cases h
  | .fr i, W, X, c, a, ok, F, h => by
    rw [chk] at h
    refine good_norm ?_
    split at h
    · next x p hn =>
      rw [hn]
      have k := sE_fr (C := C) (W := W) (H0 := H0) (P0 := P0) (vis_of (p := p) F h)
      exact ⟨k, sT_val k fun _ => rfl⟩
    · cases h
  | .bo i, W, X, c, a, ok, F, h => by
    rw [chk] at h
    refine good_norm ?_
    split at h
    · next x p hn =>
      rw [hn]
      have k := sE_bo (C := C) (W := W) (H0 := H0) (P0 := P0) (vis_of (p := p) F h)
      exact ⟨k, sT_val k fun _ => rfl⟩
    · cases h
  | .lit d, W, X, c, a, ok, F, h => by
    rw [chk] at h
    refine good_norm ?_
    split at h
    · next k j p hn =>
      rw [hn]
      have k := lit_of (C := C) (W := W) (X := X) (H0 := H0) (P0 := P0) (j := j) (p := p) h
      exact ⟨k, sT_val k fun _ => rfl⟩
    · next e hne hn =>
      rw [hn]
      unfold dctB at h
      split at h
      · exact ⟨sE_dct, sT_val sE_dct fun _ => rfl⟩
      · cases h
    · cases h
  | .glb g, W, X, c, a, ok, F, h => by
    rw [chk] at h
    refine good_norm ?_
    split at h
    · next x p hn =>
      rw [hn]
      obtain ⟨h1, h2⟩ := and2 h
      have e : g = x := of_decide_eq_true h1
      subst e
      obtain ⟨g1, g2⟩ := glo_of F h2
      have k := sE_glb (C := C) (W := W) (H0 := H0) (P0 := P0) (pos := p) ok g1 g2
      exact ⟨k, sT_val k fun _ => rfl⟩
    · cases h
  | .shr e, W, X, c, a, ok, F, h => by
    rw [chk] at h
    refine good_norm ?_
    split at h
    · next x hn =>
      rw [hn]
      have k := chk_e hdd e ok F h
      exact ⟨sE_shr k.1, sT_shr k.2⟩
    · cases h
  | .bin op a b, W, X, c, t, ok, F, h => by
    rw [chk] at h
    refine good_norm ?_
    split at h
    · next x op' y p hn =>
      rw [hn]
      obtain ⟨h, h4⟩ := and2 h
      obtain ⟨h, h3⟩ := and2 h
      obtain ⟨h1, h2⟩ := and2 h
      have e : op = op' := of_decide_eq_true h1
      subst e
      have ka := (chk_e hdd a ok F h3).1
      have kb := (chk_e hdd b ok F h4).1
      have k : PE X (.BinOp x op y p) (tE C W X.K H0 P0 (.bin op a b)) := by
        cases op <;> first | (simp [binB] at h2; done) | skip
        · exact sE_bin ka kb (op_add.or (op_add_str.or op_cat)) (ok_add ok)
        · exact sE_bin ka kb op_sub ok_sub
        · exact sE_bin ka kb (op_mulS.or op_rep) (ok_mul ok)
        · exact sE_bin ka kb op_modN ok_mod
        · exact sE_bin ka kb op_pow ok_pow
        · exact sE_bin ka kb (op_fdivS ok) ok_fdiv
      exact ⟨k, sT_val k fun _ => rfl⟩
    · cases h
  | .neg a, W, X, c, t, ok, F, h => by
    rw [chk] at h
    refine good_norm ?_
    split at h
    · next x p hn =>
      rw [hn]
      have k := sE_neg (pos := p) (chk_e hdd a ok F h).1
      exact ⟨k, sT_val k fun _ => rfl⟩
    · cases h
  | .not a, W, X, c, t, ok, F, h => by
    rw [chk] at h
    refine good_norm ?_
    split at h
    · next x p hn =>
      rw [hn]
      have k := chk_e hdd a ok F h
      exact ⟨sE_not k.1, sT_not k.2⟩
    · cases h
  | .and a b, W, X, c, t, ok, F, h => by
    rw [chk] at h
    refine good_norm ?_
    split at h
    · next x y rest hn =>
      rw [hn]
      obtain ⟨h1, h2⟩ := and2 h
      have ka := chk_e hdd a ok F h1
      have kb := chk_e hdd b ok F h2
      exact fun pos => ⟨sE_and ka.1 (kb pos).1, sT_and ka.2 (kb pos).2⟩
    · cases h
  | .or a b, W, X, c, t, ok, F, h => by
    rw [chk] at h
    refine good_norm ?_
    split at h
    · next x y rest hn =>
      rw [hn]
      obtain ⟨h1, h2⟩ := and2 h
      have ka := chk_e hdd a ok F h1
      have kb := chk_e hdd b ok F h2
      exact fun pos => ⟨sE_or ka.1 (kb pos).1, sT_or ka.2 (kb pos).2⟩
    · cases h
  | .cmp op a b, W, X, c, t, ok, F, h => by
    rw [chk] at h
    refine good_norm ?_
    split at h
    · next x op' y p hn =>
      rw [hn]
      obtain ⟨h, h5⟩ := and2 h
      obtain ⟨h, h4⟩ := and2 h
      obtain ⟨h, h3⟩ := and2 h
      obtain ⟨h1, h2⟩ := and2 h
      have e : op = op' := of_decide_eq_true h1
      subst e
      have ka := (chk_e hdd a ok F h4).1
      have kb := (chk_e hdd b ok F h5).1
      have hm : behindInMarks op y = false := notBehind h3
      have hu : X.A.units + 65 < cLine := by have := ok.room.un; omega
      cases op
      · exact sE_cmp ka kb ((op_eqD ok.room.units).or (op_eqDS (by have := ok.room.units; omega))) (ck_eq ok) hm
      · exact sE_cmp ka kb ((op_neD ok.room.units).or (op_neDS (by have := ok.room.units; omega))) (ck_ne ok) hm
      · exact sE_cmp ka kb op_lt ck_lt hm
      · exact sE_cmp ka kb op_le ck_le hm
      · exact sE_cmp ka kb op_gt ck_gt hm
      · exact sE_cmp ka kb op_ge ck_ge hm
      · exact sE_cmp ka kb (op_isBl.or op_isN1) ck_is hm
      · exact sE_cmp ka kb (op_notBl.or op_notN1) ck_isnot hm
      · exact sE_cmp ka kb ((op_inD hu).or (op_in_seq.or op_in_sign)) (ck_in ok) hm
      · exact sE_cmp ka kb ((op_notInD hu).or (op_notIn_seq.or op_notIn_sign)) (ck_notin ok) hm
    · cases h
  | .ix a i, W, X, c, t, ok, F, h => by
    rw [chk] at h
    refine good_norm ?_
    split at h
    · next x y p hn =>
      rw [hn]
      obtain ⟨h, h3⟩ := and2 h
      obtain ⟨h1, h2⟩ := and2 h
      have k := sE_ix (pos := p) ok (chk_e hdd a ok F h2).1 (chk_e hdd i ok F h3).1 (notSlice_of h1)
      exact ⟨k, sT_val k fun _ => rfl⟩
    · cases h
  | .pth _ _ _, W, X, c, t, ok, F, h => by
    rw [chk] at h
    cases h
  | .sl a lo hi, W, X, c, t, ok, F, h => by
    rw [chk] at h
    refine good_norm ?_
    split at h
    · next x l hh p2 p hn =>
      rw [hn]
      obtain ⟨h, h3⟩ := and2 h
      obtain ⟨h1, h2⟩ := and2 h
      have k := sE_sl (pos := p) (p2 := p2) ok (chk_e hdd a ok F h1).1 (chk_o hdd lo ok F h2) (chk_o hdd hi ok F h3)
      exact ⟨k, sT_val k fun _ => rfl⟩
    · cases h
  | .tup es, W, X, c, t, ok, F, h => by
    rw [chk] at h
    refine good_norm ?_
    split at h
    · next xs kx p hn =>
      rw [hn]
      obtain ⟨h1, h2⟩ := and2 h
      have k := sE_tup (x1 := kx) (pos := p) (chk_l hdd es ok F h1) (of_decide_eq_true h2) (hes_of h1)
      exact ⟨k, sT_val k fun _ => rfl⟩
    · cases h
  | .lst es, W, X, c, t, ok, F, h => by
    rw [chk] at h
    refine good_norm ?_
    split at h
    · next xs p hn =>
      rw [hn]
      obtain ⟨h1, h2⟩ := and2 h
      have k := sE_lst (pos := p) (chk_l hdd es ok F h1) (of_decide_eq_true h2) (hes_of h1)
      exact ⟨k, sT_val k fun _ => rfl⟩
    · cases h
  | .call f es, W, X, c, t, ok, F, h => by
    rw [chk] at h
    refine good_norm ?_
    split at h
    · next x p y ys pos hn =>
      rw [hn]
      obtain ⟨h, h4⟩ := and2 h
      obtain ⟨h, h3⟩ := and2 h
      obtain ⟨h1, h2⟩ := and2 h
      have e : f = x := of_decide_eq_true h1
      subst e
      obtain ⟨g1, g2⟩ := glo_of F h2
      have k := sE_call (p := p) (pos := pos) ok (hdd _ _ h3) rfl (chk_l hdd es ok F h4) (chkL_star es h4) g1 g2 (hes_of h4)
      exact ⟨k, sT_val k fun _ => rfl⟩
    · cases h
  | .bi f es, W, X, c, t, ok, F, h => by
    rw [chk] at h
    refine good_norm ?_
    split at h
    · next x p y ys pos hn =>
      rw [hn]
      obtain ⟨h, h3⟩ := and2 h
      obtain ⟨h1, h2⟩ := and2 h
      obtain ⟨g1, g2⟩ := glo_of F h2
      have k := sE_bi (p := p) (pos := pos) ok (of_decide_eq_true h1) (chk_l hdd es ok F h3) (chkL_star es h3) g1
      exact ⟨k, sT_val k fun _ => rfl⟩
    · cases h
  | .mt _ _ _, W, X, c, t, ok, F, h => by
    rw [chk] at h
    cases h
  | .isi a ty, W, X, c, t, ok, F, h => by
    rw [chk] at h
    refine good_norm ?_
    split at h
    · next f p x y p2 pos hn =>
      rw [hn]
      obtain ⟨h, h6⟩ := and2 h
      obtain ⟨h, h5⟩ := and2 h
      obtain ⟨h, h4⟩ := and2 h
      obtain ⟨h, h3⟩ := and2 h
      obtain ⟨h1, h2⟩ := and2 h
      have e : f = "isinstance" := of_decide_eq_true h1
      subst e
      have k := sE_isi (p := p) (p2 := p2) (pos := pos) ok (of_decide_eq_true h2) (chk_e hdd a ok F h6).1 h5 (glo_of F h3).1 (glo_of F h4).1
      exact ⟨k, sT_val k fun _ => rfl⟩
    · cases h
  | .pop i, W, X, c, t, ok, F, h => by
    rw [chk] at h
    refine good_norm ?_
    split at h
    · next x p m ap cp hn =>
      rw [hn]
      obtain ⟨h, h3⟩ := and2 h
      obtain ⟨h1, h2⟩ := and2 h
      have e : m = "pop" := of_decide_eq_true h1
      subst e
      have k := sE_pop (C := C) (W := W) (H0 := H0) (P0 := P0) ok (vis_of (p := p) F h2) h3
      exact ⟨k, sT_val k fun _ => rfl⟩
    · cases h
  | .lrv e, W, X, c, t, ok, F, h => by
    rw [chk] at h
    refine good_norm ?_
    split at h
    · next f p g p2 y pos2 pos hn =>
      rw [hn]
      obtain ⟨h, h6⟩ := and2 h
      obtain ⟨h, h5⟩ := and2 h
      obtain ⟨h, h4⟩ := and2 h
      obtain ⟨h, h3⟩ := and2 h
      obtain ⟨h1, h2⟩ := and2 h
      have e1 := of_decide_eq_true h1
      have e2 := of_decide_eq_true h2
      subst e1 e2
      have k := sE_lrv (p := p) (p2 := p2) (pos := pos) (pos2 := pos2) ok (chk_e hdd e ok F h6).1 h5 (glo_of F h3).1 (glo_of F h4).1
      exact ⟨k, sT_val k fun _ => rfl⟩
    · cases h
  | .lrg a, W, X, c, t, ok, F, h => by
    rw [chk] at h
    refine good_norm ?_
    split at h
    · next f p g p2 y pos2 pos hn =>
      rw [hn]
      obtain ⟨h, h6⟩ := and2 h
      obtain ⟨h, h5⟩ := and2 h
      obtain ⟨h, h4⟩ := and2 h
      obtain ⟨h, h3⟩ := and2 h
      obtain ⟨h1, h2⟩ := and2 h
      have e1 := of_decide_eq_true h1
      have e2 := of_decide_eq_true h2
      subst e1 e2
      have k := sE_lrg (p := p) (p2 := p2) (pos := pos) (pos2 := pos2) ok (chk_e hdd a ok F h6).1 h5 (glo_of F h3).1 (glo_of F h4).1
      exact ⟨k, sT_val k fun _ => rfl⟩
    · cases h
  | .lc elt tg it cond own, W, X, c, t, ok, F, h => by
    rw [chk] at h
    refine good_norm ?_
    split at h
    · next x tgx iter ifs scope p hn =>
      rw [hn]
      obtain ⟨h, h7⟩ := and2 h
      obtain ⟨h, h6⟩ := and2 h
      obtain ⟨h, h5⟩ := and2 h
      obtain ⟨h, h4⟩ := and2 h
      obtain ⟨h, h3⟩ := and2 h
      obtain ⟨h1, h2⟩ := and2 h
      have htg : ∀ i ∈ tgL tg, i ∈ own := fun i hi => by simpa using List.all_eq_true.mp h4 i hi
      have k1 := pe_lc (te := tE C noW X.K H0 P0 elt) (tt := tCnd C noW X.K H0 P0 cond) (g := gTg X.K tg) (elt := x) (ifs := ifs) (tg := tgx) (own := ownP c own) (pos := p) ok.calm ok.nd (chk_i hdd it ok F h1) (by rw [F.N, F.sc]; exact blkOk_by h7)
        (fun s H Cl cl fp => tg_of (blkFit F s H scope cl Cl fp) ok.calm ok.nd h3)
        (fun s H Cl cl fp => chk_c hdd cond (blk_ok ok s H scope (compEnvC scope cl Cl X.env) fp) (blkFit F s H scope cl Cl fp) h5)
        (fun s H Cl cl fp => (chk_e hdd elt (blk_ok ok s H scope (compEnvC scope cl Cl X.env) fp) (blkFit F s H scope cl Cl fp) h6).1) (notSet_of h2)
      rw [ownP_snd] at k1
      have k : PE X (.ListComp x [⟨tgx, iter, ifs, 0⟩] scope p) (tE C W X.K H0 P0 (.lc elt tg it cond own)) := k1.imp fun σ H Q hq => lc_core ok htg hq
      exact ⟨k, sT_val k fun _ => rfl⟩
    · cases h
theorem chk_l (hdd : ∀ f n, dd f n = true → C.isDef f n = true) : ∀ (es : Es) {W : Wish} {X : Cx} {c : CC} {xs : List Expr}, XOk C X W → Fit X c → chkL dd es c xs = true → PA X xs (tEs C W X.K H0 P0 es)
  | .nil, W, X, c, xs, ok, F, h => by
    rw [chkL] at h
    cases xs with
    | nil => exact sEs_nil
    | cons x xs => simp at h
  | .cons e es, W, X, c, xs, ok, F, h => by
    rw [chkL_cons] at h
    cases xs with
    | nil => simp at h
    | cons x xs =>
      obtain ⟨h, h3⟩ := and2 h
      obtain ⟨h1, h2⟩ := and2 h
      exact sEs_cons h1 (chk_e hdd e ok F h2).1 (chk_l hdd es ok F h3)
theorem chk_o (hdd : ∀ f n, dd f n = true → C.isDef f n = true) : ∀ (o : Eo) {W : Wish} {X : Cx} {c : CC} {x : Option Expr}, XOk C X W → Fit X c → chkO dd o c x = true → PO X x (tO C W X.K H0 P0 o)
  | .no, W, X, c, x, ok, F, h => by
    rw [chkO] at h
    cases x with
    | none => exact sO_no
    | some x => simp at h
  | .so e, W, X, c, x, ok, F, h => by
    rw [chkO_so] at h
    cases x with
    | none => simp at h
    | some x => exact sO_so (chk_e hdd e ok F h).1
theorem chk_c (hdd : ∀ f n, dd f n = true → C.isDef f n = true) : ∀ (o : Eo) {W : Wish} {X : Cx} {c : CC} {xs : List Expr}, XOk C X W → Fit X c → chkC dd o c xs = true → PTs X xs (tCnd C W X.K H0 P0 o)
  | .no, W, X, c, xs, ok, F, h => by
    rw [chkC] at h
    cases xs with
    | nil => exact sC_no
    | cons x xs => simp at h
  | .so e, W, X, c, xs, ok, F, h => by
    rw [chkC_so] at h
    split at h
    · exact sC_so (chk_e hdd e ok F h).2
    · cases h
theorem chk_i (hdd : ∀ f n, dd f n = true → C.isDef f n = true) : ∀ (it : Itr) {W : Wish} {X : Cx} {c : CC} {tg x : Expr}, XOk C X W → Fit X c → chkI dd it c tg x = true → PI X tg x (tI C W X.K H0 P0 it)
  | .list e, W, X, c, tg, x, ok, F, h => by
    rw [chkI] at h
    exact sI_list (chk_e hdd e ok F h).1
  | .str e, W, X, c, tg, x, ok, F, h => by
    rw [chkI] at h
    exact sI_str (chk_e hdd e ok F h).1
  | .brw i, W, X, c, tg, x, ok, F, h => by
    rw [chkI_brw] at h
    split at h
    · exact sI_brw (vis_of F h)
    · cases h
  | .tupi e, W, X, c, tg, x, ok, F, h => by
    rw [chkI] at h
    exact sI_tupi (chk_e hdd e ok F h).1
  | .rg1 a, W, X, c, tg, x, ok, F, h => by
    rw [chkI_rg1] at h
    split at h
    · obtain ⟨h, h4⟩ := and2 h
      obtain ⟨h, h3⟩ := and2 h
      obtain ⟨h1, h2⟩ := and2 h
      have e := of_decide_eq_true h1
      subst e
      exact sI_rg1 ok (chk_e hdd a ok F h4).1 h3 (glo_of F h2).1
    · cases h
  | .rg2 a b, W, X, c, tg, x, ok, F, h => by
    rw [chkI_rg2] at h
    split at h
    · obtain ⟨h, h6⟩ := and2 h
      obtain ⟨h, h5⟩ := and2 h
      obtain ⟨h, h4⟩ := and2 h
      obtain ⟨h, h3⟩ := and2 h
      obtain ⟨h1, h2⟩ := and2 h
      have e := of_decide_eq_true h1
      subst e
      exact sI_rg2 ok (chk_e hdd a ok F h5).1 (chk_e hdd b ok F h6).1 h3 h4 (glo_of F h2).1
    · cases h
  | .rg3 a b d, W, X, c, tg, x, ok, F, h => by
    rw [chkI_rg3] at h
    split at h
    · obtain ⟨h, h8⟩ := and2 h
      obtain ⟨h, h7⟩ := and2 h
      obtain ⟨h, h6⟩ := and2 h
      obtain ⟨h, h5⟩ := and2 h
      obtain ⟨h, h4⟩ := and2 h
      obtain ⟨h, h3⟩ := and2 h
      obtain ⟨h1, h2⟩ := and2 h
      have e := of_decide_eq_true h1
      subst e
      exact sI_rg3 ok (chk_e hdd a ok F h6).1 (chk_e hdd b ok F h7).1 (chk_e hdd d ok F h8).1 h3 h4 h5 (glo_of F h2).1
    · cases h
  | .rev e, W, X, c, tg, x, ok, F, h => by
    rw [chkI_rev] at h
    split at h
    · obtain ⟨h, h4⟩ := and2 h
      obtain ⟨h, h3⟩ := and2 h
      obtain ⟨h1, h2⟩ := and2 h
      have ee := of_decide_eq_true h1
      subst ee
      exact sI_rev ok (chk_e hdd e ok F h4).1 h3 (glo_of F h2).1
    · cases h
  | .enum e, W, X, c, tg, x, ok, F, h => by
    rw [chkI_enum] at h
    split at h
    · obtain ⟨h, h4⟩ := and2 h
      obtain ⟨h, h3⟩ := and2 h
      obtain ⟨h1, h2⟩ := and2 h
      have ee := of_decide_eq_true h1
      subst ee
      exact sI_enum ok (chk_e hdd e ok F h4).1 h3 (glo_of F h2).1
    · cases h
  | .zip es, W, X, c, tg, x, ok, F, h => by
    cases es with
    | nil => rw [chkI_zipO] at h <;> first | (cases h; done) | (intro _ _ z; cases z) | (intro _ _ _ z; cases z)
    | cons a es =>
    cases es with
    | nil => rw [chkI_zipO] at h <;> first | (cases h; done) | (intro _ _ z; cases z) | (intro _ _ _ z; cases z)
    | cons b es =>
    cases es with
    | cons d es =>
      cases es with
      | cons f es => rw [chkI_zipO] at h <;> first | (cases h; done) | (intro _ _ z; cases z) | (intro _ _ _ z; cases z)
      | nil =>
        rw [chkI_zip3] at h
        split at h
        · obtain ⟨h, h8⟩ := and2 h
          obtain ⟨h, h7⟩ := and2 h
          obtain ⟨h, h6⟩ := and2 h
          obtain ⟨h, h5⟩ := and2 h
          obtain ⟨h, h4⟩ := and2 h
          obtain ⟨h, h3⟩ := and2 h
          obtain ⟨h1, h2⟩ := and2 h
          have ee := of_decide_eq_true h1
          subst ee
          exact sI_zip3 ok (chk_e hdd a ok F h6).1 (chk_e hdd b ok F h7).1 (chk_e hdd d ok F h8).1 h3 h4 h5 (glo_of F h2).1
        · cases h
    | nil =>
    rw [chkI_zip] at h
    split at h
    · obtain ⟨h, h6⟩ := and2 h
      obtain ⟨h, h5⟩ := and2 h
      obtain ⟨h, h4⟩ := and2 h
      obtain ⟨h, h3⟩ := and2 h
      obtain ⟨h1, h2⟩ := and2 h
      have ee := of_decide_eq_true h1
      subst ee
      exact sI_zip2 ok (chk_e hdd a ok F h5).1 (chk_e hdd b ok F h6).1 h3 h4 (glo_of F h2).1
    · cases h
end
end
end TV
namespace TV
open PySem PySem.Spec PyProof.Rows L2

def fnKind (c : CC) : Bool := match c.sc.kind with
  | .function => true
  | _ => false
def isLocal (c : CC) (x : Str) : Bool := match c.sc.names.lookup x with
  | some .local => true
  | _ => false
/-- is the store exchanged with the letting go of the comprehension's variables -/
def swB (c : CC) (v : Expr) (y : Str) (py : Pos) : Bool := match v with
  | .ListComp _ _ s p => isLocal c y && (py.line == p.line) && !(s.names.any fun (n, k) => n == y && (k == .local || k == .cell))
  | .SetComp _ _ s p => isLocal c y && (py.line == p.line) && !(s.names.any fun (n, k) => n == y && (k == .local || k == .cell))
  | .DictComp _ _ _ s p => isLocal c y && (py.line == p.line) && !(s.names.any fun (n, k) => n == y && (k == .local || k == .cell))
  | _ => false
def isLcE : E → Bool
  | .lc _ _ _ _ _ => true
  | _ => false
def hdlB (c : CC) : List Stmt → List (Nat × D) → Bool
  | [], [] => true
  | .Assign [.Name x _] (.Constant (.bool b) _ _) _ :: r, (i, .bl b') :: h => (b == b') && decide (c.N[i]? = some x) && isLocal c x && hdlB c r h
  | _, _ => false
def kB (c : CC) (i : Nat) : List Expr → List (Bool × Str) → Bool
  | [], [] => true
  | .Call (.Name f _) [.Name x _, .Name y _] [] _ :: es, (false, z) :: cs => decide (f = "isinstance") && gloB c f && visB c i x && decide (y = z) && gloB c y && kB c i es cs
  | .UnaryOp .Not (.Call (.Name f _) [.Name x _, .Name y _] [] _) _ :: es, (true, z) :: cs => decide (f = "isinstance") && gloB c f && visB c i x && decide (y = z) && gloB c y && kB c i es cs
  | _, _ => false
def hkB (c : CC) (i : Nat) : List Stmt → List Hk → Bool
  | [], [] => true
  | .Assign [.Name x _] (.List es _) _ :: r, .set j cs :: h => decide (i ≠ j) && decide (c.N[j]? = some x) && isLocal c x && decide (es.length ≤ 1000) && kB c i es cs && hkB c i r h
  | .Assign [.Name x _] (.BinOp (.Name y _) .Add (.List es _) _) _ :: r, .add j cs :: h => decide (i ≠ j) && decide (c.N[j]? = some x) && isLocal c x && decide (es.length ≤ 1000) && visB c j y && kB c i es cs && hkB c i r h
  | _, _ => false
def mtName : Mt → Str
  | .append => "append"
  | .extend => "extend"
  | .clear => "clear"
  | .pop => "pop"
  | .insert => "insert"
section
variable (dd : Str → Nat → Bool) (xx : Str → Bool)
mutual
def chkS : S → CC → Stmt → Bool
  | .asg i e, c, st => match st with
    | .Assign [.Name x px] v _ => locB c i x && fnKind c && (bif swB c v x px then isLC v && isLcE e else true) && chk dd e c (.e v)
    | _ => false
  | .unp is e, c, st => match st with
    | .Assign [.Tuple es _ _] v _ => namesB c es is && notTup v && chk dd e c (.e v)
    | _ => false
  | .par i j a b, c, st => match st with
    | .Assign [.Tuple [.Name x px, .Name y py] _ _] (.Tuple [v, w] _ _) _ => fnKind c && decide (c.N[i]? = some x) && decide (c.N[j]? = some y) && decide (i ≠ j) && isLocal c x && isLocal c y && decide (x ≠ y) && (px.line == py.line) && notStar v && notStar w
        && !([v, w].all (foldedForSure 8)) && !([v, w].all (constantsAlone 8)) && chk dd a c (.e v) && chk dd b c (.e w)
    | _ => false
  | .swp i a b d e, c, st => match st with
    | .Assign [.Tuple [.Subscript (.Name x _) k1 _, .Subscript (.Name y _) k2 _] _ _] (.Tuple [v, w] _ _) _ => fnKind c && decide (x = y) && visB c i x && notSlice k1 && notSlice k2 && notStar v && notStar w && chk dd a c (.e k1) && chk dd b c (.e k2) && chk dd d c (.e v) && chk dd e c (.e w)
    | _ => false
  | .set1 i k e, c, st => match st with
    | .Assign [.Subscript (.Name x _) k1 _] v _ => visB c i x && notSlice k1 && chk dd k c (.e k1) && chk dd e c (.e v)
    | _ => false
  | .set2 _ _ _ _, _, _ => false
  | .aug i op e, c, st => match st with
    | .AugAssign (.Name x _) op' v _ => decide (op = op') && (op == .Add || op == .Sub) && locB c i x && chk dd e c (.e v)
    | _ => false
  | .mut0 m i es, c, st => match st with
    | .Expr (.Call (.Attribute (.Name x _) name ap) xs [] cp) _ => decide (name = mtName m) && visB c i x && (ap.endLine == cp.line) && decide (xs.length < 20) && (bif m == .clear || m == .pop then xs.isEmpty && (match es with | .nil => true | _ => false) else !xs.isEmpty && chkL dd es c xs)
    | _ => false
  | .mut1 _ _ _ _, _, _ => false
  | .ex e, c, st => match st with
    | .Expr v _ => notCompr v && chk dd e c (.e v)
    | _ => false
  | .ifs t a b, c, st => match st with
    | .If v x y _ => chk dd t c (.e v) && chkSs a c x && chkSs b c y
    | _ => false
  | .whl t b, c, st => match st with
    | .While v x [] _ => chk dd t c (.e v) && chkSs b c x
    | _ => false
  | .frs tg it b, c, st => match st with
    | .For tx ix x [] _ => tgB c tg tx && notSet ix && chkI dd it c tx ix && chkSs b c x
    | _ => false
  | .scn i tg t d, c, st => match st with
    | .For tx ix [.If v [.Return (some le) _] [] _] [] _ => tgB c tg tx && notSet ix && chkI dd (.brw i) c tx ix && chk dd t c (.e v) && chk dd (.lit d) c (.e le) && !(tgL tg).contains i
    | _ => false
  | .ret e, c, st => match st with
    | .Return (some v) _ => chk dd e c (.e v)
    | _ => false
  | .rse x, c, st => match st with
    | .Raise (some (.Call (.Name y _) [.Constant (.str _) _ _] [] _)) none _ => decide (x = y) && xx x && gloB c y
    | _ => false
  | .try1 b x h, c, st => match st with
    | .Try body [.ExceptHandler (some (.Name y _)) none (st0 :: sts) _] [] [] _ => decide (x = y) && xx x && gloB c y && hdlB c (st0 :: sts) h && chkSs b c body
    | _ => false
  | .try2 b x i h, c, st => match st with
    | .Try body [.ExceptHandler (some (.Name y _)) (some n) (st0 :: sts) _] [] [] _ => decide (x = y) && xx x && gloB c y && decide (c.N[i]? = some n) && isLocal c n && hkB c i (st0 :: sts) h && chkSs b c body
    | _ => false
  | .brk, _, st => match st with
    | .Break _ => true
    | _ => false
  | .cnt, _, st => match st with
    | .Continue _ => true
    | _ => false
  | .pas, _, st => match st with
    | .Pass _ => true
    | _ => false
  | .kil _, _, _ => false
def chkSs : Ss → CC → List Stmt → Bool
  | .nil, _, xs => xs.isEmpty
  | .cons s ss, c, xs => match s with
    | .kil _ => chkSs ss c xs
    | _ => match xs with
      | x :: xs => chkS s c x && chkSs ss c xs
      | [] => false
end
end

section
variable {C : Ctx} {W : Wish} {X : Cx} {H0 : Hp} {P0 : Addr → Prop} {c : CC}
theorem kind_of (F : Fit X c) (h : fnKind c = true) : X.env.scope.kind = .function := by
  rw [F.sc]
  unfold fnKind at h
  split at h
  · assumption
  · cases h
theorem local_of (F : Fit X c) {x : Str} (h : isLocal c x = true) : X.env.scope.names.lookup x = some .local := by
  rw [F.sc]
  unfold isLocal at h
  split at h
  · assumption
  · cases h
theorem kindLocal (F : Fit X c) (x : Str) : (X.env.kindOf x == some .local) = isLocal c x := by
  unfold isLocal
  show (X.env.scope.names.lookup x == some .local) = _
  rw [F.sc]
  split
  · next h => rw [h]; rfl
  · next h =>
    cases e : c.sc.names.lookup x with
    | none => rfl
    | some k => cases k <;> first | rfl | exact absurd e h
theorem suiteFit (F : Fit X c) (a : Addr) (pn : List (Addr × Obj)) : Fit (X.suite a pn) c := ⟨F.N, F.sc, F.fn⟩
def tK (i : Nat) (a : Addr) (b : Bool) : TE := fun σ H Q => σ[i]? = some (some (.ref a)) ∧ Q (.bl b) H
def tKs (i : Nat) (a : Addr) (bs : List Bool) : TA := fun σ H Q => σ[i]? = some (some (.ref a)) ∧ Q (bs.map V.bl) H
theorem pe_kind {X : Cx} {c : CC} {a D0 : Addr} {oe : Obj} {pn : List (Addr × Obj)} {i : Nat} {e x z : Str} {b : Bool} {p p2 p3 pos : Pos} (F : Fit (X.suite a ((a, oe) :: pn)) c) (bi : X.mg "isinstance" = none) (ek : KitOk X.K X.mg x z b) (hD : X.mg x = some (.ref D0)) (hz : Zc (.ref D0) none oe) (hf : ∃ vs, oe.data = .fields vs)
    (hv : visB c i e = true) (hg : gloB c "isinstance" = true) (hgz : gloB c z = true) : PE (X.suite a ((a, oe) :: pn)) (.Call (.Name "isinstance" p) [.Name e p2, .Name z p3] [] pos) (tK i a b) := by
  obtain ⟨a', hm, EC, hk⟩ := ek
  rw [hD] at hm
  cases hm
  rcases hk with ⟨d, hmz, hdb, hk⟩ | ⟨rfl, hmz, hk⟩
  · exact (pe_callB (X := X.suite a ((a, oe) :: pn)) (call_isE EC hz hf) (glo_of F hg).1 bi boot_isinstance (pa_cons (vis_of F hv) (pa_cons (pe_glob (v := .ref d) (glo_of F hgz).1 hmz rfl hdb) pa_nil (star_cons rfl)) (star_cons rfl)) (by decide) (by decide) (star_cons rfl) (star_all (by rfl))).imp fun σ H Q ⟨hσ, q⟩ => ⟨.ref a, hσ, .ref d, .ref d, b, rfl, fun u hu => hu, hk, q⟩
  · exact (pe_callB (X := X.suite a ((a, oe) :: pn)) (call_isE EC hz hf) (glo_of F hg).1 bi boot_isinstance (pa_cons (vis_of F hv) (pa_cons (pe_bltn (v := .ty "ValueError") (glo_of F hgz).1 hmz (u := .type "ValueError") (by decide +kernel) rfl (by decide) (by decide)) pa_nil (star_cons rfl)) (star_cons rfl)) (by decide) (by decide) (star_cons rfl) (star_all (by rfl))).imp fun σ H Q ⟨hσ, q⟩ => ⟨.ref a, hσ, .ty "ValueError", .type "ValueError", b, rfl, fun u hu => hu, hk, q⟩
theorem kB_star {c : CC} {i : Nat} : ∀ {es : List Expr} {cs : List (Bool × Str)}, kB c i es cs = true → es.all notStar = true ∧ es.length = cs.length := by
  intro es
  induction es with
  | nil => intro cs h; cases cs <;> first | exact ⟨rfl, rfl⟩ | (simp [kB] at h)
  | cons e es ih =>
    intro cs h
    unfold kB at h
    split at h <;> first | (cases h; done) | skip
    · cases ‹e :: es = []›
    · next cs' hc =>
      cases hc
      obtain ⟨_, h⟩ := and2 h
      obtain ⟨h1, h2⟩ := ih h
      exact ⟨by rw [List.all_cons, h1]; rfl, by rw [List.length_cons, List.length_cons, h2]⟩
    · next cs' hc =>
      cases hc
      obtain ⟨_, h⟩ := and2 h
      obtain ⟨h1, h2⟩ := ih h
      exact ⟨by rw [List.all_cons, h1]; rfl, by rw [List.length_cons, List.length_cons, h2]⟩
theorem pa_kinds {X : Cx} {c : CC} {a D0 : Addr} {oe : Obj} {pn : List (Addr × Obj)} {i : Nat} {x : Str} {k : Str → Option Bool} (F : Fit (X.suite a ((a, oe) :: pn)) c) (bi : X.mg "isinstance" = none) (ek : ∀ z b, k z = some b → KitOk X.K X.mg x z b) (hD : X.mg x = some (.ref D0)) (hz : Zc (.ref D0) none oe) (hf : ∃ vs, oe.data = .fields vs) :
    ∀ {es : List Expr} {cs : List (Bool × Str)} {bs : List Bool}, kB c i es cs = true → kindsOf k cs = some bs → PA (X.suite a ((a, oe) :: pn)) es (tKs i a bs) := by
  intro es
  induction es with
  | nil =>
    intro cs bs h hk
    cases cs with
    | nil => cases hk; exact pa_nil.imp fun σ H Q q => q.2
    | cons _ _ => simp [kB] at h
  | cons e es ih =>
    intro cs bs h hk
    unfold kB at h
    split at h <;> first | (cases h; done) | skip
    · cases ‹e :: es = []›
    · next cs' hc =>
      cases hc
      obtain ⟨h, h6⟩ := and2 h
      obtain ⟨h, h5⟩ := and2 h
      obtain ⟨h, h4⟩ := and2 h
      obtain ⟨h, h3⟩ := and2 h
      obtain ⟨h1, h2⟩ := and2 h
      have e1 := of_decide_eq_true h1
      have e4 := of_decide_eq_true h4
      subst e1 e4
      rw [kindsOf] at hk
      obtain ⟨b, hb, hk⟩ := Option.bind_eq_some_iff.mp hk
      obtain ⟨bs', hbs, rfl⟩ := Option.map_eq_some_iff.mp hk
      refine (pa_cons (pe_kind F bi (ek _ _ hb) hD hz hf h3 h2 h5) (ih h6 hbs) (star_cons rfl)).imp fun σ H Q ⟨hσ, q⟩ => ⟨hσ, hσ, ?_⟩
      cases b <;> exact q
    · next cs' hc =>
      cases hc
      obtain ⟨h, h6⟩ := and2 h
      obtain ⟨h, h5⟩ := and2 h
      obtain ⟨h, h4⟩ := and2 h
      obtain ⟨h, h3⟩ := and2 h
      obtain ⟨h1, h2⟩ := and2 h
      have e1 := of_decide_eq_true h1
      have e4 := of_decide_eq_true h4
      subst e1 e4
      rw [kindsOf] at hk
      obtain ⟨b, hb, hk⟩ := Option.bind_eq_some_iff.mp hk
      obtain ⟨bs', hbs, rfl⟩ := Option.map_eq_some_iff.mp hk
      refine (pa_cons (pe_not (pe_kind F bi (ek _ _ hb) hD hz hf h3 h2 h5)) (ih h6 hbs) (star_cons rfl)).imp fun σ H Q ⟨hσ, q⟩ => ⟨hσ, b, rfl, hσ, ?_⟩
      cases b <;> exact q
theorem reps_bls {K : PySem.W.Frag} {H : Hp} : ∀ bs : List Bool, Reps K H (bs.map V.bl) (bs.map D.bl) [] []
  | [] => .nil
  | b :: bs => .cons (f := []) (s := []) (.bl b) (reps_bls bs)
theorem bools_map : ∀ {es : List D} {bs : List Bool}, boolsOf es = some bs → es = bs.map D.bl
  | [], bs, h => by cases h; rfl
  | e :: es, bs, h => by
    cases e <;> first | (simp [boolsOf] at h; done) | skip
    rw [boolsOf] at h
    obtain ⟨b', h1, rfl⟩ := Option.map_eq_some_iff.mp h
    rw [bools_map h1]; rfl
theorem reps_bls_inv {K : PySem.W.Frag} {H : Hp} : ∀ {bs : List Bool} {us : List V} {f s : List Addr}, Reps K H us (bs.map D.bl) f s → us = bs.map V.bl
  | [], us, f, s, r => by cases r; rfl
  | b :: bs, us, f, s, r => by
    cases r with
    | cons r1 r2 =>
      cases r1
      rw [reps_bls_inv r2]; rfl
theorem kinds_len {k : Str → Option Bool} : ∀ {cs : List (Bool × Str)} {bs : List Bool}, kindsOf k cs = some bs → bs.length = cs.length
  | [], bs, h => by cases h; rfl
  | (n, c) :: cs, bs, h => by
    rw [kindsOf] at h
    obtain ⟨b, hb, h⟩ := Option.bind_eq_some_iff.mp h
    obtain ⟨bs', hbs, rfl⟩ := Option.map_eq_some_iff.mp h
    rw [List.length_cons, List.length_cons, kinds_len hbs]
def tHk (L : Lim) (K : PySem.W.Frag) (H0 : Hp) (P0 : Addr → Prop) (i : Nat) (a : Addr) (k : Str → Option Bool) (h : List Hk) : TS := fun DD σ H => ∃ env T e2, SR K H0 P0 env σ T H ∧ σ[i]? = some (some (.ref a)) ∧ hkGo L k h env = some e2 ∧ ∀ σ' H', SR K H0 P0 e2 σ' T H' → DD.nx σ' H'
theorem never_PSs {X : Cx} {e : List Stmt} {t : TS} (h : ∀ D σ H, t D σ H → False) : PSs X e t := ⟨fun _ _ σ H D _ hq => (h D σ H hq).elim⟩
theorem pss_hk {X : Cx} {c : CC} {a D0 : Addr} {oe : Obj} {pn : List (Addr × Obj)} {i : Nat} {x : Str} {k : Str → Option Bool} {L : Lim} (nd : X.N.Nodup) (len : ∀ n, L.len n = true → n < sizeLine) (F : Fit (X.suite a ((a, oe) :: pn)) c) (bi : X.mg "isinstance" = none) (ek : ∀ z b, k z = some b → KitOk X.K X.mg x z b) (hD : X.mg x = some (.ref D0)) (hz : Zc (.ref D0) none oe) (hf : ∃ vs, oe.data = .fields vs) :
    ∀ {st : List Stmt} {h : List Hk}, hkB c i st h = true → PSs (X.suite a ((a, oe) :: pn)) st (tHk L X.K H0 P0 i a k h) := by
  intro st
  induction st with
  | nil =>
    intro h hh
    cases h with
    | nil => exact pss_nil.imp fun D σ H ⟨env, T, e2, s, _, hg, q⟩ => by cases hg; exact q σ H s
    | cons _ _ => simp [hkB] at hh
  | cons s0 st ih =>
    intro h hh
    unfold hkB at hh
    split at hh <;> first | (cases hh; done) | skip
    · cases ‹s0 :: st = []›
    · rename_i x' px es pl pa r j cs h' he
      cases he
      obtain ⟨hh, h6⟩ := and2 hh
      obtain ⟨hh, h5⟩ := and2 hh
      obtain ⟨hh, h4⟩ := and2 hh
      obtain ⟨hh, h3⟩ := and2 hh
      obtain ⟨h1, h2⟩ := and2 hh
      have hij : i ≠ j := of_decide_eq_true h1
      have hl : es.length ≤ 1000 := of_decide_eq_true h4
      have hloc := local_of F h3
      have hn : (X.suite a ((a, oe) :: pn)).N[j]? = some x' := by rw [F.N]; exact of_decide_eq_true h2
      obtain ⟨_, hlen⟩ := kB_star h5
      cases hk : kindsOf k cs with
      | none => exact never_PSs fun D σ H ⟨env, T, e2, s, _, hg, q⟩ => by rw [hkGo, hk] at hg; cases hg
      | some bs =>
        refine (pss_cons (ps_set (X := X.suite a ((a, oe) :: pn)) nd hn (.inl hloc) (pe_lst (pa_kinds F bi ek hD hz hf h5 hk)) rfl (.inr hloc)) (ih h6)).imp fun DD σ H ⟨env, T, e2, s, hσ, hg, q⟩ => ?_
        rw [hkGo, hk] at hg
        refine ⟨hσ, ?_, fun p hp => ?_⟩
        · rw [List.length_map, kinds_len hk, ← hlen]; exact Nat.le_trans hl (by decide)
        · refine ⟨env.set j (.lst .ow (bs.map D.bl)), T, e2, SR.asg (SR.newL (U := []) s hp fun fa sa r n dj => ⟨[], [], reps_bls bs, .nil, (fun _ z => nomatch z), (fun _ z => nomatch z)⟩), ?_, hg, q⟩
          rw [List.getElem?_set_ne (Ne.symm hij)]; exact hσ
    · rename_i x' px y py es pl pb pa r j cs h' he
      cases he
      obtain ⟨hh, h7⟩ := and2 hh
      obtain ⟨hh, h6⟩ := and2 hh
      obtain ⟨hh, h5⟩ := and2 hh
      obtain ⟨hh, h4⟩ := and2 hh
      obtain ⟨hh, h3⟩ := and2 hh
      obtain ⟨h1, h2⟩ := and2 hh
      have hij : i ≠ j := of_decide_eq_true h1
      have hl : es.length ≤ 1000 := of_decide_eq_true h4
      have hloc := local_of F h3
      have hn : (X.suite a ((a, oe) :: pn)).N[j]? = some x' := by rw [F.N]; exact of_decide_eq_true h2
      obtain ⟨_, hlen⟩ := kB_star h6
      cases hk : kindsOf k cs with
      | none =>
        refine never_PSs fun D σ H ⟨env, T, e2, s, _, hg, q⟩ => ?_
        rw [hkGo, hk] at hg
        split at hg
        · next es0 he0 =>
          cases hb : boolsOf es0 with
          | none => rw [hb] at hg; cases hg
          | some b0 => rw [hb] at hg; cases hg
        · cases hg
      | some bs =>
        refine (pss_cons (ps_set (X := X.suite a ((a, oe) :: pn)) nd hn (.inl hloc) (pe_op op_cat (vis_of F h5) (pe_lst (pa_kinds F bi ek hD hz hf h6 hk))) rfl (.inr hloc)) (ih h7)).imp fun DD σ H ⟨env, T, e2, s, hσ, hg, q⟩ => ?_
        rw [hkGo, hk] at hg
        split at hg
        · next es0 he0 =>
          cases hb : boolsOf es0 with
          | none => rw [hb] at hg; cases hg
          | some b0 =>
            rw [hb] at hg
            have hg : (if L.len (b0.length + bs.length) = true then hkGo L k h' (env.set j (.lst .ow ((b0 ++ bs).map D.bl))) else none) = some e2 := hg
            split at hg
            · next hlen2 =>
              rw [bools_map hb] at he0
              obtain ⟨v, f, s', hv, rep⟩ := s.slot he0 rfl
              cases rep with
              | ow hH rr =>
                rename_i l us f'
                have hus := reps_bls_inv rr
                subst hus
                have hz2 := len _ hlen2
                refine ⟨.ref l, hv, hσ, ?_, fun p hp => ⟨l, p, b0.map V.bl, bs.map V.bl, rfl, rfl, ?_, L2.upd_same, ?_, fun p2 hp2 => ?_⟩⟩
                · rw [List.length_map, kinds_len hk, ← hlen]; exact Nat.le_trans hl (by decide)
                · rw [upd_ne (ne_of_none hH hp)]; exact hH
                · rw [List.length_map, List.length_map]; omega
                · have s2 : SR X.K H0 P0 env σ ((.lst .ow (bs.map D.bl), .ref p) :: T) (L2.upd H p (.lst (bs.map V.bl))) := SR.newL (U := []) s hp fun fa sa r n dj => ⟨[], [], reps_bls bs, .nil, (fun _ z => nomatch z), (fun _ z => nomatch z)⟩
                  have s3 : SR X.K H0 P0 env σ ((.lst .ow ((b0 ++ bs).map D.bl), .ref p2) :: T) (L2.upd (L2.upd H p (.lst (bs.map V.bl))) p2 (.lst ((b0 ++ bs).map V.bl))) := SR.newL (U := []) s2.pop1 hp2 fun fa sa r n dj => ⟨[], [], reps_bls _, .nil, (fun _ z => nomatch z), (fun _ z => nomatch z)⟩
                  rw [← List.map_append]
                  refine ⟨env.set j (.lst .ow ((b0 ++ bs).map D.bl)), T, e2, SR.asg s3, ?_, hg, q⟩
                  rw [List.getElem?_set_ne (Ne.symm hij)]; exact hσ
            · cases hg
        · cases hg
/-- a loop that looks at each of a list of the def's own, which then is told by -/
theorem sS_scan (ok : SOk C X W) {tgx iter cond le : Expr} {pos ip rp : Pos} {etg : Tg} {i : Nat} {ec : E} {d : D} (hi : PI X tgx iter (tI C W X.K H0 P0 (.brw i))) (hg : PG X tgx (gTg X.K etg)) (hc : PT X cond (tT C W X.K H0 P0 ec)) (hd : PSs X [.Return (some le) rp] (tSs C W X.K H0 P0 (.cons (.ret (.lit d)) .nil))) (hs : ∀ x, foldedSetIterable iter X.env x = pure x) (hni : i ∉ tgL etg) :
    PS X (.For tgx iter [.If cond [.Return (some le) rp] [] ip] [] pos) (tS C W X.K H0 P0 (.scn i etg ec d)) := (ps_for ok.po ok.calm hi hg (pss_one (ps_if hc hd pss_nil)) hs).imp fun DD σ H ⟨env, T, r, s, ev, p⟩ => by
  rw [evS] at ev
  rcases sbnd_inv ev with ⟨c, e1, h1, rfl⟩ | ⟨pp, e1, h1, ev⟩
  · exact ⟨env, T, _, s, h1, (fun _ _ z => nomatch z), fun c e z H' s' => by cases z; exact p σ H' s'⟩
  refine ⟨env, T, _, s, h1, fun t' e1' z J hs H1 hlen s1 wk hbk => ?_, (fun _ _ z => nomatch z)⟩
  cases z
  obtain ⟨v, rfl, hv⟩ := hbk i rfl
  obtain ⟨d0, hd0⟩ : ∃ d0, pp.1 = [d0] := by
    match hp1 : pp.1, hlen with
    | [d0], _ => exact ⟨d0, rfl⟩
  rw [hd0] at ev s1 wk
  refine ⟨fun k m σ' H => ∃ env, SR X.K H0 P0 env σ' ((d0, v) :: T) H ∧ σ'[i]? = some (some v) ∧ scnEnd d i [d0] (scnGo (evE C ec) etg (pp.2.drop k) env) = some r ∧ m = pp.2.length - k, ⟨_, e1, s1, hv, by rw [List.drop_zero]; exact ev, rfl⟩, ?_⟩
  rintro k m σ' H ⟨env, s, hv', hf, rfl⟩
  obtain ⟨w1, w2⟩ := wk env σ' T H k s
  cases hd : pp.2[k]? with
  | none =>
    have hle : pp.2.length ≤ k := List.getElem?_eq_none_iff.mp hd
    rw [List.drop_eq_nil_of_le hle] at hf
    cases hf
    exact .inl ⟨w2 hle, p _ _ (s.back hv')⟩
  | some x0 =>
    obtain ⟨go, y⟩ := w1 x0 hd
    rw [drop_cons hd, scnGo] at hf
    have hlt' := lt_of_get hd
    refine .inr ⟨go, fun σ2 H2 => ∃ env, SR X.K H0 P0 env σ2 ((d0, v) :: T) H2 ∧ σ2[i]? = some (some v) ∧ scnEnd d i [d0] (scnGo (evE C ec) etg (pp.2.drop (k + 1)) env) = some r, fun σ2 H2 ⟨env, a, b, c⟩ => ⟨pp.2.length - (k + 1), by omega, env, a, b, c, rfl⟩, fun x H' hy => ?_⟩
    have s2 := y x H' hy
    cases hst : setTg etg x0 env with
    | none => rw [hst] at hf; cases hf
    | some e2 =>
      rw [hst] at hf
      dsimp only at hf
      refine gTg_ok s2 hst fun σ3 hw s3 => ?_
      have hv3 : σ3[i]? = some (some v) := by
        have e : (L2.wipe σ3 (tgL etg))[i]? = (L2.wipe σ' (tgL etg))[i]? := by rw [hw (tgL etg) fun _ z => z]
        rw [wipe_out hni, wipe_out hni] at e
        rw [e]; exact hv'
      cases he : evE C ec e2 with
      | none => rw [he] at hf; cases hf
      | some rr =>
        cases rr with
        | ex c e3 => rw [he] at hf; cases hf
        | ok t e3 =>
          rw [he] at hf
          dsimp only at hf
          refine ⟨e2, _, _, s3, he, fun t' e3' z => ?_, (fun _ _ z => nomatch z)⟩
          cases z
          unfold asB at hf
          cases hr : raw e3 t with
          | none => rw [hr] at hf; cases hf
          | some dd =>
            rw [hr] at hf
            cases dd <;> first | (cases hf; done) | skip
            rename_i b
            refine ⟨b, rfl, fun H3 s4 => ?_⟩
            cases b with
            | true =>
              dsimp only [scnEnd] at hf
              by_cases ha : atom d = true
              · rw [if_pos ha] at hf
                cases hf
                refine iteT ⟨e3, _, .rt d, s4, ?_, p⟩
                have ha2 : litD d = true := by cases d <;> first | exact ha | (cases ha)
                rw [evSs, evS, evE, if_pos ha2]; rfl
              · rw [if_neg ha] at hf; cases hf
            | false => exact iteF ⟨e3, s4, hv3, hf⟩
theorem sS_try2 (ok : SOk C X W) (F : Fit X c) {body : List Stmt} {st0 : Stmt} {st : List Stmt} {x n : Str} {np pos pos' : Pos} {sb : Ss} {i : Nat} {h : List Hk} (hg : Gl X x) (hdb : (x == ("__debug__" : Str)) = false) (hcx : C.exc x x = true) (hi : c.N[i]? = some n) (hln : isLocal c n = true)
    (hb : ∀ (W' : Wish) (pn : List (Addr × Obj)) (xe : Value → Shared → Prop), SOk C (X.tr pn xe) W' → PSs (X.tr pn xe) body (tSs C W' X.K H0 P0 sb)) (hs : hkB c i (st0 :: st) h = true) :
    PS X (.Try body [.ExceptHandler (some (.Name x np)) (some n) (st0 :: st) pos'] [] [] pos) (tS C W X.K H0 P0 (.try2 sb x i h)) := by
  obtain ⟨a0, _, hm0, hm1, _⟩ := ok.exm x x hcx
  have hiX : X.N[i]? = some n := by rw [F.N]; exact hi
  refine (ps_try_as (i := i) (c := .ref a0) (tb := fun W' => tSs C (fun c σ H => ∀ a, X.mg c = some (.ref a) → W' (.ref a) none σ H) X.K H0 P0 sb)
    (ts := fun a cls d DD σ H => ∃ y D0, cls = .ref D0 ∧ d = none ∧ X.mg y = some (.ref D0) ∧ tHk C.L X.K H0 P0 i a (C.exc.k y) h DD σ H) (Wout := WC X.mg W) ok.stk ok.fra ok.nd hiX (by have := kindLocal F n; rw [hln] at this; exact beq_iff_eq.mp this) ⟨hg, hdb, .inl hm0⟩ ok.tk
    (fun W' pn xe tk po => hb _ pn xe (tr_ok ok pn xe _ (Takes.imp tk fun c d σ H ⟨hd, n, a, e, hm, hw⟩ => by subst e; subst hd; exact hw a hm) po))
    (fun a oe cls d pn hz hf => ⟨fun pins s σ H DD I hh => by
      obtain ⟨y, D0, rfl, rfl, hm, hh⟩ := hh
      exact (pss_hk (X := X) (c := c) ok.nd ok.len (suiteFit F a ((a, oe) :: pn)) (ok.bi _ (by decide)) (fun z b hzb => ok.kit y z b hzb) hm hz hf hs).run pins s σ H DD I hh⟩)).imp fun DD σ H ⟨env, T, r, s, ev, p⟩ => ?_
  rw [evS] at ev
  split at ev
  · next c' e hbody =>
    split at ev
    · next hc =>
      split at ev
      · next e2 hk =>
        cases ev
        refine ⟨env, T, _, s, hbody, fun σ' H' s' a hm => ?_⟩
        obtain ⟨b1, b2, m1, m2, hex⟩ := ok.exm c' x (and2 hc).1
        rw [hm] at m1
        cases m1
        rw [hm0] at m2
        cases m2
        have hlt : i < σ'.length := by rw [s'.len]; exact of_decide_eq_true (and2 hc).2
        refine ⟨true, hex, fun _ a' ha' => ⟨c', a, rfl, rfl, hm, e.set i .hole, T, e2, ?_, ?_, hk, fun σ2 H2 s2 => ?_⟩, fun z => nomatch z⟩
        · refine SR.slots (s'.kill1 i) (by rw [List.length_set]) fun j d he hd => ?_
          by_cases hj : j = i
          · subst hj
            rw [List.getElem?_set_self (by have := s'.len; rw [← this]; exact hlt)] at he
            cases he
            cases hd
          · rw [List.getElem?_set_ne (Ne.symm hj)]
        · rw [List.getElem?_set_self hlt]
        · refine p (σ2.set i none) H2 (SR.slots (s2.kill1 i) (by rw [List.length_set]) fun j d he hd => ?_)
          by_cases hj : j = i
          · subst hj
            have hl2 := (List.getElem?_eq_some_iff.mp he).1
            rw [List.length_set] at hl2
            rw [List.getElem?_set_self hl2] at he
            cases he
            cases hd
          · rw [List.getElem?_set_ne (Ne.symm hj)]
      · cases ev
    · cases ev
  · next hne =>
    cases r with
    | nx e => exact ⟨env, T, _, s, ev, p⟩
    | rt d => exact ⟨env, T, _, s, ev, p⟩
    | bk e => exact ⟨env, T, _, s, ev, p⟩
    | ct e => exact ⟨env, T, _, s, ev, p⟩
    | ex c e => exact absurd ev (hne c e)
theorem block_fn (F : Fit X c) (h : fnKind c = true) : X.env.blockKind = .function := by
  unfold Env.blockKind
  rw [kind_of F h]; rfl
theorem sw_of (F : Fit X c) (hk : fnKind c = true) {v : Expr} {y : Str} {py : Pos} {l : Nat} : swapsWith v (some (.Name y py)) l X.env = pure (swB c v y py) := by
  have hb := block_fn F hk
  have hl := kindLocal F y
  cases v <;> first | rfl | skip
  all_goals
    unfold swapsWith swB
    simp only [hb, hl, Expr.pos]
    first
      | rfl
      | (simp; done)
theorem sw_tup {v : Expr} {es : List Expr} {k : Nat} {p : Pos} {l : Nat} {env : PySem.Env} : swapsWithSole [.Tuple es k p] v l env = pure false := by
  cases v <;> rfl
theorem sw_sub {v a b : Expr} {p : Pos} {l : Nat} {env : PySem.Env} : swapsWithSole [.Subscript a b p] v l env = pure false := by
  cases v <;> rfl
theorem sw_ex {v : Expr} {l : Nat} {env : PySem.Env} (h : notCompr v = true) : swapsWith v none l env = pure false := by
  cases v <;> first | rfl | (simp [notCompr] at h)
theorem st_notTup {v : Expr} {es : List Expr} {k : Nat} {p : Pos} {env : PySem.Env} (h : notTup v = true) : swappedStores [.Tuple es k p] v env = pure none := by
  cases v <;> first | rfl | (simp [notTup] at h)
theorem st_sub {v a b : Expr} {p : Pos} {env : PySem.Env} : swappedStores [.Subscript a b p] v env = pure none := by
  cases v <;> rfl
theorem star_any {v w : Expr} {f : Expr → Bool} (hf : ∀ x, notStar x = true → f x = false) (h1 : notStar v = true) (h2 : notStar w = true) : ¬ ([v, w].any f = true) := by
  rw [List.any_cons, List.any_cons, hf v h1, hf w h2]
  exact Bool.false_ne_true
theorem fm2 {x y : Str} {px py : Pos} {f : Expr → Option Str} (h1 : f (.Name x px) = some x) (h2 : f (.Name y py) = some y) : List.filterMap f [.Name x px, .Name y py] = [x, y] := by
  simp [List.filterMap_cons, h1, h2]
theorem st_par (F : Fit X c) (hk : fnKind c = true) {x y : Str} {px py pt p2 : Pos} {kt k2 : Nat} {v w : Expr} (hx : isLocal c x = true) (hy : isLocal c y = true) (hxy : x ≠ y) (hl : (px.line == py.line) = true) (h1 : notStar v = true) (h2 : notStar w = true)
    (h3 : [v, w].all (foldedForSure 8) = false) (h4 : [v, w].all (constantsAlone 8) = false) : swappedStores [.Tuple [.Name x px, .Name y py] kt pt] (.Tuple [v, w] k2 p2) X.env = pure (some [x, y]) := by
  have hb := block_fn F hk
  have ex := local_of F hx
  have ey := local_of F hy
  have kx : X.env.kindOf x = some .local := ex
  have ky : X.env.kindOf y = some .local := ey
  have hl' : (py.line == px.line) = true := by rw [beq_iff_eq] at hl ⊢; exact hl.symm
  have hd : ([x, y] : List Str).eraseDups.length = 2 := by
    have : (y == x) = false := by simpa using fun e => hxy e.symm
    simp [List.eraseDups, List.eraseDupsBy, List.eraseDupsBy.loop, this]
  unfold swappedStores
  simp only [List.length_cons, List.length_nil, hb]
  rw [if_neg (by decide), if_neg (star_any (by intro z hz; cases z <;> first | rfl | (simp [notStar] at hz)) h1 h2)]
  rw [fm2 (x := x) (y := y) (px := px) (py := py)]
  · simp [h3, h4, hd]
  · simp [kx, Expr.pos]
  · simp [ky, Expr.pos, hl']
    first | done | (rw [beq_iff_eq] at hl'; exact hl')
theorem st_swp (F : Fit X c) (hk : fnKind c = true) {a b a' b' v w : Expr} {p p' pt p2 : Pos} {kt k2 : Nat} (h1 : notStar v = true) (h2 : notStar w = true) : swappedStores [.Tuple [.Subscript a b p, .Subscript a' b' p'] kt pt] (.Tuple [v, w] k2 p2) X.env = pure none := by
  have hb := block_fn F hk
  unfold swappedStores
  simp only [List.length_cons, List.length_nil, hb]
  rw [if_neg (by decide), if_neg (star_any (by intro z hz; cases z <;> first | rfl | (simp [notStar] at hz)) h1 h2)]
  simp
theorem set_plain {o i : Expr} {pos : Pos} {env : PySem.Env} (h : notSlice i = true) : ∀ v, assign (.Subscript o i pos) env v = (do
      let ov ← holding [v] (eval o env)
      let iv ← holding [v, ov] (eval i env)
      standAt pos
      holding [v, ov, iv] (setItem ov iv v)
      release [v, ov, iv] []) := by
  intro v
  cases i <;> first | rfl | (simp [notSlice] at h)
theorem hdl_of (F : Fit X c) : ∀ {st : List Stmt} {h : List (Nat × D)}, hdlB c st h = true → SetsAt X st h
  | [], [], _ => .nil
  | [], _ :: _, h => by simp [hdlB] at h
  | st :: sts, h, hh => by
    unfold hdlB at hh
    split at hh
    · exact absurd ‹st :: sts = []› (by simp)
    · next x p b cj cp pos r i b' h' e1 =>
      cases e1
      obtain ⟨hh, h4⟩ := and2 hh
      obtain ⟨hh, h3⟩ := and2 hh
      obtain ⟨h1, h2⟩ := and2 hh
      have e : b = b' := by simpa using h1
      subst e
      exact .cons (by rw [F.N]; exact of_decide_eq_true h2) (local_of F h3) (hdl_of F h4)
    · cases hh
variable {dd : Str → Nat → Bool} {xx : Str → Bool}
theorem trFit (F : Fit X c) (pn : List (Addr × Obj)) (xe : Value → Shared → Prop) : Fit (X.tr pn xe) c := ⟨F.N, F.sc, F.fn⟩
theorem dbg_of {c : CC} {x : Str} (h : gloB c x = true) : (x == ("__debug__" : Str)) = false := (okName_of (and2 h).1).1

theorem chkS_asg (dd : Str → Nat → Bool) (xx : Str → Bool) (i : Nat) (e : E) (c : CC) (st : Stmt) : chkS dd xx (.asg i e) c st = (match st with
    | .Assign [.Name x px] v _ => locB c i x && fnKind c && (bif swB c v x px then isLC v && isLcE e else true) && chk dd e c (.e v)
    | _ => false) := by rfl
theorem chkS_unp (dd : Str → Nat → Bool) (xx : Str → Bool) (is : List Nat) (e : E) (c : CC) (st : Stmt) : chkS dd xx (.unp is e) c st = (match st with
    | .Assign [.Tuple es _ _] v _ => namesB c es is && notTup v && chk dd e c (.e v)
    | _ => false) := by rfl
theorem chkS_par (dd : Str → Nat → Bool) (xx : Str → Bool) (i : Nat) (j : Nat) (a : E) (b : E) (c : CC) (st : Stmt) : chkS dd xx (.par i j a b) c st = (match st with
    | .Assign [.Tuple [.Name x px, .Name y py] _ _] (.Tuple [v, w] _ _) _ => fnKind c && decide (c.N[i]? = some x) && decide (c.N[j]? = some y) && decide (i ≠ j) && isLocal c x && isLocal c y && decide (x ≠ y) && (px.line == py.line) && notStar v && notStar w
        && !([v, w].all (foldedForSure 8)) && !([v, w].all (constantsAlone 8)) && chk dd a c (.e v) && chk dd b c (.e w)
    | _ => false) := by rfl
theorem chkS_swp (dd : Str → Nat → Bool) (xx : Str → Bool) (i : Nat) (a : E) (b : E) (d : E) (e : E) (c : CC) (st : Stmt) : chkS dd xx (.swp i a b d e) c st = (match st with
    | .Assign [.Tuple [.Subscript (.Name x _) k1 _, .Subscript (.Name y _) k2 _] _ _] (.Tuple [v, w] _ _) _ => fnKind c && decide (x = y) && visB c i x && notSlice k1 && notSlice k2 && notStar v && notStar w && chk dd a c (.e k1) && chk dd b c (.e k2) && chk dd d c (.e v) && chk dd e c (.e w)
    | _ => false) := by rfl
theorem chkS_set1 (dd : Str → Nat → Bool) (xx : Str → Bool) (i : Nat) (k : E) (e : E) (c : CC) (st : Stmt) : chkS dd xx (.set1 i k e) c st = (match st with
    | .Assign [.Subscript (.Name x _) k1 _] v _ => visB c i x && notSlice k1 && chk dd k c (.e k1) && chk dd e c (.e v)
    | _ => false) := by rfl
theorem chkS_aug (dd : Str → Nat → Bool) (xx : Str → Bool) (i : Nat) (op : Operator) (e : E) (c : CC) (st : Stmt) : chkS dd xx (.aug i op e) c st = (match st with
    | .AugAssign (.Name x _) op' v _ => decide (op = op') && (op == .Add || op == .Sub) && locB c i x && chk dd e c (.e v)
    | _ => false) := by rfl
theorem chkS_mut0 (dd : Str → Nat → Bool) (xx : Str → Bool) (m : Mt) (i : Nat) (es : Es) (c : CC) (st : Stmt) : chkS dd xx (.mut0 m i es) c st = (match st with
    | .Expr (.Call (.Attribute (.Name x _) name ap) xs [] cp) _ => decide (name = mtName m) && visB c i x && (ap.endLine == cp.line) && decide (xs.length < 20) && (bif m == .clear || m == .pop then xs.isEmpty && (match es with | .nil => true | _ => false) else !xs.isEmpty && chkL dd es c xs)
    | _ => false) := by rfl
theorem chkS_ex (dd : Str → Nat → Bool) (xx : Str → Bool) (e : E) (c : CC) (st : Stmt) : chkS dd xx (.ex e) c st = (match st with
    | .Expr v _ => notCompr v && chk dd e c (.e v)
    | _ => false) := by rfl
theorem chkS_ifs (dd : Str → Nat → Bool) (xx : Str → Bool) (t : E) (a : Ss) (b : Ss) (c : CC) (st : Stmt) : chkS dd xx (.ifs t a b) c st = (match st with
    | .If v x y _ => chk dd t c (.e v) && chkSs dd xx a c x && chkSs dd xx b c y
    | _ => false) := by rfl
theorem chkS_whl (dd : Str → Nat → Bool) (xx : Str → Bool) (t : E) (b : Ss) (c : CC) (st : Stmt) : chkS dd xx (.whl t b) c st = (match st with
    | .While v x [] _ => chk dd t c (.e v) && chkSs dd xx b c x
    | _ => false) := by rfl
theorem chkS_frs (dd : Str → Nat → Bool) (xx : Str → Bool) (tg : Tg) (it : Itr) (b : Ss) (c : CC) (st : Stmt) : chkS dd xx (.frs tg it b) c st = (match st with
    | .For tx ix x [] _ => tgB c tg tx && notSet ix && chkI dd it c tx ix && chkSs dd xx b c x
    | _ => false) := by rfl
theorem chkS_scn (dd : Str → Nat → Bool) (xx : Str → Bool) (i : Nat) (tg : Tg) (t : E) (d : D) (c : CC) (st : Stmt) : chkS dd xx (.scn i tg t d) c st = (match st with
    | .For tx ix [.If v [.Return (some le) _] [] _] [] _ => tgB c tg tx && notSet ix && chkI dd (.brw i) c tx ix && chk dd t c (.e v) && chk dd (.lit d) c (.e le) && !(tgL tg).contains i
    | _ => false) := by rfl
theorem chkS_ret (dd : Str → Nat → Bool) (xx : Str → Bool) (e : E) (c : CC) (st : Stmt) : chkS dd xx (.ret e) c st = (match st with
    | .Return (some v) _ => chk dd e c (.e v)
    | _ => false) := by rfl
theorem chkS_rse (dd : Str → Nat → Bool) (xx : Str → Bool) (x : Str) (c : CC) (st : Stmt) : chkS dd xx (.rse x) c st = (match st with
    | .Raise (some (.Call (.Name y _) [.Constant (.str _) _ _] [] _)) none _ => decide (x = y) && xx x && gloB c y
    | _ => false) := by rfl
theorem chkS_try1 (dd : Str → Nat → Bool) (xx : Str → Bool) (b : Ss) (x : Str) (h : List (Nat × D)) (c : CC) (st : Stmt) : chkS dd xx (.try1 b x h) c st = (match st with
    | .Try body [.ExceptHandler (some (.Name y _)) none (st0 :: sts) _] [] [] _ => decide (x = y) && xx x && gloB c y && hdlB c (st0 :: sts) h && chkSs dd xx b c body
    | _ => false) := by rfl
theorem chkS_try2 (dd : Str → Nat → Bool) (xx : Str → Bool) (b : Ss) (x : Str) (i : Nat) (h : List Hk) (c : CC) (st : Stmt) : chkS dd xx (.try2 b x i h) c st = (match st with
    | .Try body [.ExceptHandler (some (.Name y _)) (some n) (st0 :: sts) _] [] [] _ => decide (x = y) && xx x && gloB c y && decide (c.N[i]? = some n) && isLocal c n && hkB c i (st0 :: sts) h && chkSs dd xx b c body
    | _ => false) := by rfl
theorem chkS_brk (dd : Str → Nat → Bool) (xx : Str → Bool)  (c : CC) (st : Stmt) : chkS dd xx (.brk) c st = (match st with
    | .Break _ => true
    | _ => false) := by rfl
theorem chkS_cnt (dd : Str → Nat → Bool) (xx : Str → Bool)  (c : CC) (st : Stmt) : chkS dd xx (.cnt) c st = (match st with
    | .Continue _ => true
    | _ => false) := by rfl
theorem chkS_pas (dd : Str → Nat → Bool) (xx : Str → Bool)  (c : CC) (st : Stmt) : chkS dd xx (.pas) c st = (match st with
    | .Pass _ => true
    | _ => false) := by rfl
theorem chkSs_cons (dd : Str → Nat → Bool) (xx : Str → Bool) (s : S) (ss : Ss) (c : CC) (xs : List Stmt) : chkSs dd xx (.cons s ss) c xs = (match s with
    | .kil _ => chkSs dd xx ss c xs
    | _ => match xs with
      | x :: xs => chkS dd xx s c x && chkSs dd xx ss c xs
      | [] => false) := by rfl
theorem notB {b : Bool} (h : (!b) = true) : b = false := by
  cases b <;> first | rfl | (exact absurd h (by decide))
theorem lc_form {v : Expr} (h : isLC v = true) : ∃ elt gs scope p, v = .ListComp elt gs scope p := by
  cases v <;> first | exact ⟨_, _, _, _, rfl⟩ | (simp [isLC] at h)
theorem lcE_form {e : E} (h : isLcE e = true) : ∃ elt tg it cond own, e = .lc elt tg it cond own := by
  cases e <;> first | exact ⟨_, _, _, _, _, rfl⟩ | (simp [isLcE] at h)
mutual
theorem chk_s (hdd : ∀ f n, dd f n = true → C.isDef f n = true) (hxx : ∀ x, xx x = true → C.exc x x = true) : ∀ (s : S) {W : Wish} {X : Cx} {c : CC} {st : Stmt}, SOk C X W → Fit X c → chkS dd xx s c st = true → PS X st (tS C W X.K H0 P0 s)
  | .asg i e, W, X, c, st, ok, F, h => by
    rw [chkS_asg] at h
    split at h
    · next x px v pos =>
      obtain ⟨h, h4⟩ := and2 h
      obtain ⟨h, h3⟩ := and2 h
      obtain ⟨h1, h2⟩ := and2 h
      obtain ⟨a, b, d⟩ := loc_of F h1
      cases hsw : swB c v x px with
      | false => exact sS_asg ok.toXOk a b d (chk_e hdd e ok.toXOk F h4).1 (by rw [sw_of F h2, hsw])
      | true =>
        have hsw2 := hsw
        rw [hsw] at h3
        have h3 : (isLC v && isLcE e) = true := h3
        obtain ⟨h3, h3'⟩ := and2 h3
        obtain ⟨elt, gs, scope, p, rfl⟩ := lc_form h3
        have hloc : X.env.scope.names.lookup x = some .local := by
          unfold swB at hsw2
          exact local_of F (and2 (and2 hsw2).1).1
        obtain ⟨elt', tg, it, cond, own, rfl⟩ := lcE_form h3'
        rw [chk] at h4
        simp only [norm] at h4
        split at h4
        · next x' tgx iter ifs scope' p' hn =>
          cases hn
          obtain ⟨h, k7⟩ := and2 h4
          obtain ⟨h, k6⟩ := and2 h
          obtain ⟨h, k5⟩ := and2 h
          obtain ⟨h, k4⟩ := and2 h
          obtain ⟨h, k3⟩ := and2 h
          obtain ⟨k1, k2⟩ := and2 h
          have htg : ∀ i ∈ tgL tg, i ∈ own := fun i hi => by simpa using List.all_eq_true.mp k4 i hi
          have q := ps_setLc (te := tE C noW X.K H0 P0 elt') (tt := tCnd C noW X.K H0 P0 cond) (g := gTg X.K tg) (own := ownP c own) (pos := p) (spos := pos) (py := px) ok.calm ok.nd a hloc (by rw [sw_of F h2, hsw]) (chk_i (H0 := H0) (P0 := P0) hdd it ok.toXOk F k1) (by rw [F.N, F.sc]; exact blkOk_by k7)
            (fun s H Cl cl fp => tg_of (blkFit F s H scope cl Cl fp) ok.calm ok.nd k3)
            (fun s H Cl cl fp => chk_c (H0 := H0) (P0 := P0) hdd cond (blk_ok ok.toXOk s H scope (compEnvC scope cl Cl X.env) fp) (blkFit F s H scope cl Cl fp) k5)
            (fun s H Cl cl fp => (chk_e (H0 := H0) (P0 := P0) hdd elt' (blk_ok ok.toXOk s H scope (compEnvC scope cl Cl X.env) fp) (blkFit F s H scope cl Cl fp) k6).1) (notSet_of k2)
          rw [ownP_snd] at q
          exact q.imp fun D σ H hq => lc_core ok.toXOk htg (asg_core hq)
        · cases h4
    · cases h
  | .unp is e, W, X, c, st, ok, F, h => by
    rw [chkS_unp] at h
    split at h
    · next es k p v pos =>
      obtain ⟨h, h3⟩ := and2 h
      obtain ⟨h1, h2⟩ := and2 h
      have n := names_of F h1
      exact sS_unp ok.toXOk n (namesAt_len n) (chk_e hdd e ok.toXOk F h3).1 sw_tup (st_notTup h2) (PG.or (pg_many ok.calm ok.nd n) (pg_manyL ok.calm ok.nd n))
    · cases h
  | .par i j a b, W, X, c, st, ok, F, h => by
    rw [chkS_par] at h
    split at h
    · next x px y py k p v w k2 p2 pos =>
      obtain ⟨h, h14⟩ := and2 h
      obtain ⟨h, h13⟩ := and2 h
      obtain ⟨h, h12⟩ := and2 h
      obtain ⟨h, h11⟩ := and2 h
      obtain ⟨h, h10⟩ := and2 h
      obtain ⟨h, h9⟩ := and2 h
      obtain ⟨h, h8⟩ := and2 h
      obtain ⟨h, h7⟩ := and2 h
      obtain ⟨h, h6⟩ := and2 h
      obtain ⟨h, h5⟩ := and2 h
      obtain ⟨h, h4⟩ := and2 h
      obtain ⟨h, h3⟩ := and2 h
      obtain ⟨h1, h2⟩ := and2 h
      exact sS_par ok.toXOk (by rw [F.N]; exact of_decide_eq_true h2) (by rw [F.N]; exact of_decide_eq_true h3) (of_decide_eq_true h4) (local_of F h5) (local_of F h6) (chk_e hdd a ok.toXOk F h13).1 (chk_e hdd b ok.toXOk F h14).1 h9 h10
        (st_par F h1 h5 h6 (of_decide_eq_true h7) h8 h9 h10 (notB h11) (notB h12)) sw_tup
    · cases h
  | .swp i a b d e, W, X, c, st, ok, F, h => by
    rw [chkS_swp] at h
    split at h
    · next x p k1 p1 y q k2 p2 kt pt v w ke pe pos =>
      obtain ⟨h, h11⟩ := and2 h
      obtain ⟨h, h10⟩ := and2 h
      obtain ⟨h, h9⟩ := and2 h
      obtain ⟨h, h8⟩ := and2 h
      obtain ⟨h, h7⟩ := and2 h
      obtain ⟨h, h6⟩ := and2 h
      obtain ⟨h, h5⟩ := and2 h
      obtain ⟨h, h4⟩ := and2 h
      obtain ⟨h, h3⟩ := and2 h
      obtain ⟨h1, h2⟩ := and2 h
      have e1 : x = y := of_decide_eq_true h2
      subst e1
      have g1 := pg_sub (pos := p1) (vis_of (p := p) F h3) (chk_e (H0 := H0) (P0 := P0) (W := W) hdd a ok.toXOk F h8).1 set_list (set_plain h4)
      have g2 := pg_sub (pos := p2) (vis_of (p := q) F h3) (chk_e (H0 := H0) (P0 := P0) (W := W) hdd b ok.toXOk F h9).1 set_list (set_plain h5)
      exact sS_swp ok.toXOk (vis_of F h3) (vis_of F h3) (chk_e hdd d ok.toXOk F h10).1 (chk_e hdd e ok.toXOk F h11).1 h6 h7 sw_tup (st_swp F h1 h6 h7)
        (pg_tup ok.calm (pgs_cons g1 (pgs_cons g2 pgs_nil)))
    · cases h
  | .set1 i k e, W, X, c, st, ok, F, h => by
    rw [chkS_set1] at h
    split at h
    · next x p k1 p1 v pos =>
      obtain ⟨h, h4⟩ := and2 h
      obtain ⟨h, h3⟩ := and2 h
      obtain ⟨h1, h2⟩ := and2 h
      have kk := (chk_e (H0 := H0) (P0 := P0) (W := W) hdd k ok.toXOk F h3).1
      exact sS_set1 ok.toXOk (vis_of F h1) (chk_e hdd e ok.toXOk F h4).1 kk sw_sub st_sub (pg_sub (vis_of F h1) kk set_list (set_plain h2))
    · cases h
  | .set2 _ _ _ _, W, X, c, st, ok, F, h => by rw [chkS] at h; cases h
  | .aug i op e, W, X, c, st, ok, F, h => by
    rw [chkS_aug] at h
    split at h
    · next x p op' v pos =>
      obtain ⟨h, h4⟩ := and2 h
      obtain ⟨h, h3⟩ := and2 h
      obtain ⟨h1, h2⟩ := and2 h
      have e1 : op = op' := of_decide_eq_true h1
      subst e1
      obtain ⟨a, b, d⟩ := loc_of F h3
      exact sS_aug ok.toXOk (by cases op <;> first | exact .inl rfl | exact .inr rfl | (revert h2; decide)) a b d (chk_e hdd e ok.toXOk F h4).1
    · cases h
  | .mut0 m i es, W, X, c, st, ok, F, h => by
    rw [chkS_mut0] at h
    split at h
    · next x p name ap xs cp pos =>
      obtain ⟨h, h5⟩ := and2 h
      obtain ⟨h, h4⟩ := and2 h
      obtain ⟨h, h3⟩ := and2 h
      obtain ⟨h1, h2⟩ := and2 h
      have hn : name = mtName m := of_decide_eq_true h1
      have hv := vis_of (p := p) F h2
      cases hm : (m == .clear || m == .pop) with
      | true =>
        rw [hm] at h5
        obtain ⟨h6, h7⟩ := and2 h5
        have e1 : xs = [] := by simpa using h6
        subst e1
        cases es with
        | cons e es => cases h7
        | nil => exact sS_mutN (by rw [hn]; cases m <;> rfl) hv h3 (by cases m <;> first | exact .inl rfl | exact .inr rfl | (revert hm; decide))
      | false =>
        rw [hm] at h5
        obtain ⟨h6, h7⟩ := and2 h5
        cases xs with
        | nil => simp at h6
        | cons y ys => exact sS_mut ok.toXOk (by rw [hn]; cases m <;> rfl) hv (chk_l hdd es ok.toXOk F h7) (chkL_star es h7) (of_decide_eq_true h4) h3 (by cases m <;> first | exact ⟨by decide, by decide⟩ | (revert hm; decide))
    · cases h
  | .mut1 _ _ _ _, W, X, c, st, ok, F, h => by rw [chkS] at h; cases h
  | .ex e, W, X, c, st, ok, F, h => by
    rw [chkS_ex] at h
    split at h
    · obtain ⟨h1, h2⟩ := and2 h
      exact sS_ex (chk_e hdd e ok.toXOk F h2).1 (sw_ex h1)
    · cases h
  | .ifs t a b, W, X, c, st, ok, F, h => by
    rw [chkS_ifs] at h
    split at h
    · obtain ⟨h, h3⟩ := and2 h
      obtain ⟨h1, h2⟩ := and2 h
      exact sS_if (chk_e hdd t ok.toXOk F h1).2 (chk_ss hdd hxx a ok F h2) (chk_ss hdd hxx b ok F h3)
    · cases h
  | .whl t b, W, X, c, st, ok, F, h => by
    rw [chkS_whl] at h
    split at h
    · obtain ⟨h1, h2⟩ := and2 h
      exact sS_while ok (chk_e hdd t ok.toXOk F h1).2 (chk_ss hdd hxx b ok F h2)
    · cases h
  | .frs tg it b, W, X, c, st, ok, F, h => by
    rw [chkS_frs] at h
    split at h
    · obtain ⟨h, h4⟩ := and2 h
      obtain ⟨h, h3⟩ := and2 h
      obtain ⟨h1, h2⟩ := and2 h
      exact sS_for ok (chk_i hdd it ok.toXOk F h3) (tg_of F ok.calm ok.nd h1) (chk_ss hdd hxx b ok F h4) (notSet_of h2)
    · cases h
  | .scn i tg t d, W, X, c, st, ok, F, h => by
    rw [chkS_scn] at h
    split at h
    · obtain ⟨h, h6⟩ := and2 h
      obtain ⟨h, h5⟩ := and2 h
      obtain ⟨h, h4⟩ := and2 h
      obtain ⟨h, h3⟩ := and2 h
      obtain ⟨h1, h2⟩ := and2 h
      exact sS_scan ok (chk_i hdd (.brw i) ok.toXOk F h3) (tg_of F ok.calm ok.nd h1) (chk_e hdd t ok.toXOk F h4).2 (sSs_cons (sS_ret (chk_e hdd (.lit d) ok.toXOk F h5).1) sSs_nil) (notSet_of h2) (by intro z; simp [z] at h6)
    · cases h
  | .ret e, W, X, c, st, ok, F, h => by
    rw [chkS_ret] at h
    split at h
    · exact sS_ret (chk_e hdd e ok.toXOk F h).1
    · cases h
  | .rse x, W, X, c, st, ok, F, h => by
    rw [chkS_rse] at h
    split at h
    · obtain ⟨h, h3⟩ := and2 h
      obtain ⟨h1, h2⟩ := and2 h
      have e1 := of_decide_eq_true h1
      subst e1
      obtain ⟨g1, g2⟩ := glo_of F h3
      exact sS_rse ok.toXOk (hxx _ h2) g1 g2
    · cases h
  | .try1 b x h, W, X, c, st, ok, F, hh => by
    rw [chkS_try1] at hh
    split at hh
    · obtain ⟨hh, h5⟩ := and2 hh
      obtain ⟨hh, h4⟩ := and2 hh
      obtain ⟨hh, h3⟩ := and2 hh
      obtain ⟨h1, h2⟩ := and2 hh
      have e1 := of_decide_eq_true h1
      subst e1
      obtain ⟨g1, g2⟩ := glo_of F h3
      exact sS_try ok g1 g2 (hxx _ h2) (fun W' pn xe ok' => chk_ss (X := X.tr pn xe) hdd hxx b ok' (trFit F pn xe) h5) (hdl_of F h4)
    · cases hh
  | .try2 b x i h, W, X, c, st, ok, F, hh => by
    rw [chkS_try2] at hh
    split at hh
    · obtain ⟨hh, h7⟩ := and2 hh
      obtain ⟨hh, h6⟩ := and2 hh
      obtain ⟨hh, h5⟩ := and2 hh
      obtain ⟨hh, h4⟩ := and2 hh
      obtain ⟨hh, h3⟩ := and2 hh
      obtain ⟨h1, h2⟩ := and2 hh
      have e1 := of_decide_eq_true h1
      subst e1
      obtain ⟨g1, g2⟩ := glo_of F h3
      exact sS_try2 ok F g1 g2 (hxx _ h2) (of_decide_eq_true h4) h5 (fun W' pn xe ok' => chk_ss (X := X.tr pn xe) hdd hxx b ok' (trFit F pn xe) h7) h6
    · cases hh
  | .brk, W, X, c, st, ok, F, h => by
    rw [chkS_brk] at h
    split at h
    · exact sS_brk
    · cases h
  | .cnt, W, X, c, st, ok, F, h => by
    rw [chkS_cnt] at h
    split at h
    · exact sS_cnt
    · cases h
  | .pas, W, X, c, st, ok, F, h => by
    rw [chkS_pas] at h
    split at h
    · exact sS_pas
    · cases h
  | .kil _, W, X, c, st, ok, F, h => by rw [chkS] at h; cases h
theorem chk_ss (hdd : ∀ f n, dd f n = true → C.isDef f n = true) (hxx : ∀ x, xx x = true → C.exc x x = true) : ∀ (ss : Ss) {W : Wish} {X : Cx} {c : CC} {st : List Stmt}, SOk C X W → Fit X c → chkSs dd xx ss c st = true → PSs X st (tSs C W X.K H0 P0 ss)
  | .nil, W, X, c, st, ok, F, h => by
    rw [chkSs] at h
    have e : st = [] := by simpa using h
    subst e
    exact sSs_nil
  | .cons s ss, W, X, c, st, ok, F, h => by
    rw [chkSs_cons] at h
    split at h
    · exact sSs_kil (chk_ss hdd hxx ss ok F h)
    · split at h
      · obtain ⟨h1, h2⟩ := and2 h
        exact sSs_cons (chk_s hdd hxx s ok F h1) (chk_ss hdd hxx ss ok F h2)
      · cases h
end
end
end TV
namespace TV
open PySem PySem.Spec PyProof.Rows L2

def defB (T : List Fn) (f : Str) (k : Nat) : Bool := (T.find? fun d => d.name == f).any fun d => d.np == k
def lvl : Nat := 40
section
variable (P : Program) (w : World) (K : PySem.W.Frag) (mg : Str → Option Value)
/-- a def of the text, and its core -/
def DefR (T : List Fn) (xx : Str → Bool) (d : Fn) : Prop := ∃ (f : Addr) (fd : FuncData) (params : Arguments) (body : List Stmt) (scope : Scope), mg d.name = some (.ref f) ∧ FunD K d.name d.name params body scope [] [] f fd ∧ FnScope d.N (d.N.take d.np) scope ∧ d.np ≤ d.N.length ∧
  chkSs (defB T) xx d.body ⟨d.N, scope, fun _ => true⟩ body = true ∧
  ∀ (kV doc pm : Value) (an : Option Addr) (cdv ct : Value) (us : List Value), us.length = d.np → bindArgs (PySem.W.fnOf d.name d.name params body scope .none kV doc pm an cdv ct) ⟨us, []⟩ = pure ((d.N.take d.np).zip us)
/-- what is known of the module's names -/
structure GF (base : Heap) (L : Lim) (exc : Xs) (glb : Str → Option D) (T : List Fn) : Prop where
  bi : ∀ x ∈ builtins, mg x = none
  glb : ∀ x d, glb x = some d → ∃ v u, mg x = some u ∧ RelV v u ∧ ∀ H, Rep K H v d [] []
  seer : base.NoSeer
  tree : P.given.tree = none
  rse : ∀ x, exc x x = true → ∃ a, mg x = some (.ref a) ∧ PySem.W.keepIn K (.ref a) = true ∧ PySem.W.excIn K a [.type "ValueError", .type "Exception", .type "BaseException", .type "object"] "ValueError.__new__" = true ∧ PySem.W.subIn K (.ref a) (.type "BaseException") = some true ∧ PySem.W.typeIn K (.ref a) = some (.type "type")
  exm : ∀ x c, exc x c = true → ∃ a b, mg x = some (.ref a) ∧ mg c = some (.ref b) ∧ PySem.W.exmOne K (.ref a) (.ref b) = some true
  kit : ∀ x c b, exc.k x c = some b → KitOk K mg x c b
  defs : ∀ d ∈ T, DefR K mg T (fun x => exc x x) d
  len : ∀ n, L.len n = true → n < sizeLine
  mul : ∀ i j, L.mul i j = true → IntMulOk i j
  eq : ∀ d, L.eq d = true → SeqAt.shaped d.py = true
  rng : ∀ i, L.rng i = true → -(2 ^ 62) ≤ i ∧ i < 2 ^ 62
  dig : ∀ i, L.dig i = true → i.natAbs.log2 < 1920
end
section
variable {P : Program} {w : World} {K : PySem.W.Frag} {mg : Str → Option Value} {base : Heap} {L : Lim} {exc : Xs} {glb : Str → Option D} {T : List Fn}
theorem find_name {T : List Fn} {f : Str} {d : Fn} (h : T.find? (fun d => d.name == f) = some d) : d ∈ T ∧ d.name = f := by
  refine ⟨List.mem_of_find?_eq_some h, ?_⟩
  have := List.find?_some h
  simpa using this
theorem startE_len (n : Nat) (ds : List D) (h : ds.length ≤ n) : (startE n ds).length = n := by
  unfold startE
  rw [List.length_append, List.length_replicate]
  omega
theorem reps_holes {H : Hp} : ∀ (n : Nat) (vs : List V), vs.length = n → Reps K H vs (List.replicate n .hole) [] []
  | 0, [], _ => .nil
  | 0, _ :: _, h => by simp at h
  | n + 1, [], h => by simp at h
  | n + 1, v :: vs, h => .cons (f := []) (s := []) (.hole v) (reps_holes n vs (by simpa using h))
theorem reps_nohole {H : Hp} {vs : List V} {ds : List D} {f s : List Addr} (r : Reps K H vs ds f s) : Reps K H (List.zipWith sv ds (vs.map some)) ds f s := by
  induction ds generalizing vs f s with
  | nil => cases r; exact .nil
  | cons d ds ih =>
    cases r with
    | cons r1 r2 =>
      rename_i v vs f1 s1 fp sp
      refine .cons ?_ (ih r2)
      cases r1 <;> first | exact .hole _ | exact .non | exact .bl _ | exact .int _ | exact .str _ | (rename_i h1 h2; first | exact .tup h1 h2 | exact .sh h1 h2 | exact .fz h1 h2 | exact .ow h1 h2) | (rename_i h1; exact .dct h1)
theorem sr_start {H : Hp} {N : List Str} {vs : List V} {ds : List D} {sp : List Addr} (r : Reps K H vs ds [] sp) (hl : ds.length ≤ N.length) : SR K H (· ∈ sp) (startE N.length ds) (L2.start N vs) [] H := by
  have hv := r.length
  have len : (L2.start N vs).length = N.length := by
    unfold L2.start
    rw [List.length_append, List.length_map, List.length_replicate]
    omega
  refine ⟨by rw [len, startE_len _ _ hl], fun i d e n => ?_, ?_⟩
  · unfold startE at e
    by_cases hi : i < ds.length
    · have hi' : i < vs.length := by omega
      refine ⟨vs[i], ?_⟩
      unfold L2.start
      rw [List.getElem?_append_left (by simpa using hi')]
      simp [hi']
    · rw [List.getElem?_append_right (by omega), List.getElem?_replicate] at e
      split at e
      · cases e; simp [D.isHole] at n
      · cases e
  · refine ⟨[], sp, ?_, .nil, (fun _ z => nomatch z), fun a z => .inl z, Same.refl H⟩
    show Reps K H (svs (startE N.length ds) (L2.start N vs)) (startE N.length ds) [] sp
    unfold svs startE L2.start
    rw [List.zipWith_append (by rw [List.length_map, hv])]
    have h2 := reps_holes (K := K) (H := H) (N.length - ds.length) (List.zipWith sv (List.replicate (N.length - ds.length) D.hole) (List.replicate (N.length - vs.length) none)) (by simp [hv])
    have := Reps.append (reps_nohole r) h2
    simpa using this

theorem call_ok (G : GF P K mg base L exc glb T) : ∀ (n : Nat) (f : Str) (d : Fn), T.find? (fun d => d.name == f) = some d →
    ∃ fa fd, mg f = some (.ref fa) ∧ PySem.W.keepIn K (.ref fa) = true ∧ Binds K fd (d.N.take d.np) [] ∧ (∀ (s : Shared) (us : List Value), us.length = d.np → BindsTo s fd ⟨us, []⟩ ((d.N.take d.np).zip us)) ∧ d.np ≤ d.N.length ∧ (∃ oc od osl, K.lookup fa = some ⟨oc, od, .func fd, osl⟩) ∧
      FnOk P w K mg base (L2.CX P w) (n + lvl) fa fd (d.N.take d.np) (spD K mg d.np (run L exc glb T n f)) := by
  intro n
  induction n with
  | zero =>
    intro f d hf
    obtain ⟨hd, rfl⟩ := find_name hf
    obtain ⟨fa, fd, params, body, scope, hm, F, S, hnp, hc, hb⟩ := G.defs d hd
    have hl : (d.N.take d.np).length = d.np := by rw [List.length_take]; omega
    refine ⟨fa, fd, hm, F.kp, F.bindsN fun kV doc pm an cdv ct us h => hb kV doc pm an cdv ct us (by rw [h, hl]), fun s us h => F.bindsA (fun kV doc pm an cdv ct us h => hb kV doc pm an cdv ct us (by rw [h, hl])) s us (by rw [hl]; exact h), hnp, (let ⟨oc, od, _, _, _, _, _, _, _, osl, _, lk, _⟩ := F.ex; ⟨oc, od, osl, lk⟩), ?_⟩
    refine F.ok (k := 39) S (fun vs H Q E h => by rw [hl]; exact spD_len h) fun cdv A outer s H vs Q E hr h => ?_
    exfalso
    obtain ⟨ds, sp, _, _, h | h⟩ := h
    · obtain ⟨_, h, _⟩ := h; rw [run] at h; cases h
    · obtain ⟨_, h, _⟩ := h; rw [run] at h; cases h
  | succ n ih =>
    intro f d hf
    obtain ⟨hd, rfl⟩ := find_name hf
    obtain ⟨fa, fd, params, body, scope, hm, F, S, hnp, hc, hb⟩ := G.defs d hd
    have hl : (d.N.take d.np).length = d.np := by rw [List.length_take]; omega
    refine ⟨fa, fd, hm, F.kp, F.bindsN fun kV doc pm an cdv ct us h => hb kV doc pm an cdv ct us (by rw [h, hl]), fun s us h => F.bindsA (fun kV doc pm an cdv ct us h => hb kV doc pm an cdv ct us (by rw [h, hl])) s us (by rw [hl]; exact h), hnp, (let ⟨oc, od, _, _, _, _, _, _, _, osl, _, lk, _⟩ := F.ex; ⟨oc, od, osl, lk⟩), ?_⟩
    have e : n + 1 + lvl = (n + lvl) + 1 := by omega
    rw [e]
    refine F.ok S (fun vs H Q E h => by rw [hl]; exact spD_len h) fun cdv A outer s H vs Q E hr h => ?_
    obtain ⟨ds, sp, r, hlen, h⟩ := h
    let C : Ctx := ⟨L, run L exc glb T n, defB T, exc, glb⟩
    let W : Wish := fun c σ H' => ∀ a, mg c = some (.ref a) → E (.ref a) none H'
    let X : Cx := cxOf (L2.CX P w) P w K mg base d.N d.name scope fa cdv A outer s H E
    have ok : SOk C X W :=
      { calm := rfl
        nd := S.nd
        room := hr.mono (by unfold lvl; omega)
        bi := G.bi
        glb := G.glb
        call := fun f k hk => by
          have hk : defB T f k = true := hk
          unfold defB at hk
          cases q : T.find? (fun d => d.name == f) with
          | none => rw [q] at hk; cases hk
          | some d' =>
            rw [q] at hk
            have hk' : d'.np = k := by simpa using hk
            obtain ⟨fa', fd', h1, h2, h3, _, _, _, h6⟩ := ih f d' q
            subst hk'
            exact ⟨_, fa', fd', _, hr, h1, h2, h3, h6⟩
        tk := Takes.imp (takes_of (X := X) (E := E) rfl rfl rfl rfl) fun cls dd σ H' z => by
          obtain ⟨rfl, c, a, rfl, hm, hw⟩ := z
          exact hw a hm
        len := G.len
        mul := G.mul
        eq := G.eq
        rng := G.rng
        dig := G.dig
        seer := G.seer
        tree := G.tree
        deep := by have := hr.dp; unfold lvl at this; show (A.deeper _).depth + 100 < recursionLimit; omega
        rse := G.rse
        exm := G.exm
        kit := G.kit
        frm := ⟨_, _, rfl, S.gen, S.co, rfl, rfl⟩
        stk := rfl
        fra := rfl
        po := passes_of rfl }
    refine ⟨tSs C W K H (· ∈ sp) d.body, chk_ss (C := C) (fun _ _ z => z) (fun _ z => z) d.body ok ⟨rfl, rfl, rfl⟩ hc, ?_⟩
    have s0 := sr_start (N := d.N) r (by rw [hlen]; exact hnp)
    have hrun : ∀ x, run L exc glb T (n + 1) d.name ds = some x → ∃ q, evSs C d.body (startE d.N.length ds) = some q ∧ (match q with
        | .rt x => some (.ok x)
        | .nx _ => some (.ok .non)
        | .ex c _ => some (.ex c)
        | _ => none) = some x := by
      intro x hx
      rw [run, hf] at hx
      dsimp only at hx
      rw [if_pos hlen] at hx
      cases q : evSs C d.body (startE d.N.length ds) with
      | none =>
        have q' : evSs ⟨L, run L exc glb T n, fun f k => (T.find? fun d => d.name == f).any fun d => d.np == k, exc, glb⟩ d.body (startE d.N.length ds) = none := q
        rw [q'] at hx; cases hx
      | some z =>
        have q' : evSs ⟨L, run L exc glb T n, fun f k => (T.find? fun d => d.name == f).any fun d => d.np == k, exc, glb⟩ d.body (startE d.N.length ds) = some z := q
        rw [q'] at hx
        exact ⟨z, rfl, by cases z <;> exact hx⟩
    rcases h with ⟨x, hx, hq⟩ | ⟨c, hx, hq⟩
    · obtain ⟨q, hev, hm2⟩ := hrun _ hx
      refine ⟨_, [], q, s0, hev, ?_⟩
      cases q with
      | rt y =>
        cases hm2
        exact fun v H' z => hq v H' z
      | nx e =>
        cases hm2
        exact fun σ H' z => hq .non H' ⟨[], [], .cons (f := []) (s := []) .non .nil, .nil, (fun _ z => nomatch z), (fun _ z => nomatch z), z.sm⟩
      | bk e => cases hm2
      | ct e => cases hm2
      | ex c e => cases hm2
    · obtain ⟨q, hev, hm2⟩ := hrun _ hx
      refine ⟨_, [], q, s0, hev, ?_⟩
      cases q with
      | rt y => cases hm2
      | nx e => cases hm2
      | bk e => cases hm2
      | ct e => cases hm2
      | ex c' e =>
        cases hm2
        exact fun σ H' z a hm => hq H' a z.sm hm
end
end TV
namespace TV
open PySem PySem.Spec PyProof.Rows L2

/-- the sizes that the machine goes along with -/
def real : Lim where
  mul := fun i j => decide (i.natAbs.log2 + j.natAbs.log2 ≤ 2 ^ 26)
  len := fun n => decide (n < 2 ^ 24)
  eq := fun d => SeqAt.shaped d.py
  rng := fun i => decide (-4611686018427387904 ≤ i) && decide (i < 4611686018427387904)
  dig := fun i => decide (i.natAbs.log2 < 1920)
theorem real_mul {i j : Int} (h : real.mul i j = true) : IntMulOk i j := by
  have h1 : i.natAbs.log2 + j.natAbs.log2 ≤ 2 ^ 26 := of_decide_eq_true h
  have b : ∀ k : Int, Builtin.Int.intBits k ≤ k.natAbs.log2 + 1 := fun k => by
    unfold Builtin.Int.intBits
    split <;> omega
  have b1 := b i
  have b2 := b j
  unfold IntMulOk
  intro z
  simp only [Bool.and_eq_true] at z
  have z2 := z.2
  unfold Builtin.Int.intTooBig at z2
  have z3 := of_decide_eq_true z2
  revert z3
  have e : ((Builtin.Int.intBits i : Int) + (Builtin.Int.intBits j : Int)) ≤ 2 ^ 26 + 2 := by omega
  have : (2 ^ 26 + 2 : Int) ≤ (bitsLine : Int) := by decide
  omega

mutual
def valB (K : PySem.W.Frag) : D → Value → Bool
  | .non, u => (match u with | .none => true | _ => false)
  | .bl b, u => (match u with | .bool c => b == c | _ => false)
  | .int i, u => (match u with | .int j _ => decide (i = j) | _ => false)
  | .str x, u => (match u with | .str y _ => decide (x = y) | _ => false)
  | .tup ds, u => (match u with
    | .ref a => (match K.lookup a with
      | some ⟨cls, _, .seq its _, _⟩ => decide (cls = .type "tuple") && decide (its.size ≤ sizeLine) && valsB K ds its.toList
      | _ => false)
    | _ => false)
  | .hole, _ => false
  | .lst _ _, _ => false
  | .dct, _ => false
def valsB (K : PySem.W.Frag) : List D → List Value → Bool
  | [], us => us.isEmpty
  | d :: ds, us => (match us with
    | u :: us => valB K d u && valsB K ds us
    | [] => false)
end
mutual
theorem valB_ok {K : PySem.W.Frag} : ∀ {d : D} {u : Value}, valB K d u = true → ∃ v, RelV v u ∧ ∀ H, Rep K H v d [] []
  | .non, u, h => by
    cases u <;> first | (simp [valB] at h; done) | skip
    exact ⟨.non, rfl, fun H => .non⟩
  | .bl b, u, h => by
    cases u <;> first | (simp [valB] at h; done) | skip
    rename_i c
    have e : b = c := by simpa [valB] using h
    subst e
    exact ⟨.bl b, rfl, fun H => .bl b⟩
  | .int i, u, h => by
    cases u <;> first | (simp [valB] at h; done) | skip
    rename_i c t
    have e : i = c := by simpa [valB] using h
    subst e
    exact ⟨.int i, ⟨t, rfl⟩, fun H => .int i⟩
  | .str x, u, h => by
    cases u <;> first | (simp [valB] at h; done) | skip
    rename_i c t
    have e : x = c := by simpa [valB] using h
    subst e
    exact ⟨.str x, ⟨t, rfl⟩, fun H => .str x⟩
  | .tup ds, u, h => by
    cases u <;> first | (simp [valB] at h; done) | skip
    rename_i a
    rw [valB] at h
    split at h
    · next cls od its n osl e =>
      obtain ⟨h, h3⟩ := and2 h
      obtain ⟨h1, h2⟩ := and2 h
      obtain ⟨vs, r, k⟩ := valsB_ok h3
      exact ⟨.ref a, rfl, fun H => .tup (.inr ⟨_, its, n, e, of_decide_eq_true h1, rfl, of_decide_eq_true h2, r⟩) (k H)⟩
    · cases h
  | .hole, u, h => by simp [valB] at h
  | .lst _ _, u, h => by simp [valB] at h
theorem valsB_ok {K : PySem.W.Frag} : ∀ {ds : List D} {us : List Value}, valsB K ds us = true → ∃ vs, Vals vs us ∧ ∀ H, Reps K H vs ds [] []
  | [], us, h => by
    have e : us = [] := by simpa [valsB] using h
    subst e
    exact ⟨[], .nil, fun H => .nil⟩
  | d :: ds, [], h => by simp [valsB] at h
  | d :: ds, u :: us, h => by
    rw [valsB] at h
    obtain ⟨h1, h2⟩ := and2 h
    obtain ⟨v, r, k⟩ := valB_ok h1
    obtain ⟨vs, r2, k2⟩ := valsB_ok h2
    exact ⟨v :: vs, .cons r r2, fun H => .cons (f := []) (s := []) (k H) (k2 H)⟩
end
def glbB (gl : List (Str × D)) (K : PySem.W.Frag) : Bool := gl.all fun p => match PySem.W.nsIn K mainGlobals p.1 with
  | some (some u) => valB K p.2 u
  | _ => false

/-- which class is caught by which; is an exception of the first class one of the second -/
structure Exs where
  c : List (Str × Str)
  k : List (Str × Str × Bool)
def veN : Str := "ValueError"
def faOf (T : List Fn) (exs : Exs) : List He.Fa := T.map (fun d => He.Fa.glo d.name) ++ builtins.map He.Fa.free ++ (exs.c.flatMap fun p => [.glo p.1, .glo p.2, .exc p.1, .exm p.1 p.2 true]) ++ exs.k.flatMap fun p => [.glo p.1, if p.2.1 = veN then .free veN else .glo p.2.1]
def excCB (K : PySem.W.Frag) (D : Addr) : Bool := He.eqO (PySem.W.findIn K (.ref D) "__getattribute__") (some (some (.builtin "BaseException.__getattribute__"))) && He.eqO (PySem.W.findIn K (.ref D) "__getattr__") (some none)
  && decide (PySem.W.subIn K (.ref D) (.type "BaseException") = some true) && PySem.W.hasDictIn K D && He.eqO (PySem.W.findIn K (.ref D) "__class__") (some (some (.builtin "object.__class__")))
  && He.eqO (PySem.W.specialIn K (.builtin "object.__class__") "__get__") (some (some (.builtin "getset_descriptor.__get__"))) && decide (PySem.W.takesIn K (.builtin "object.__class__") = some true) && decide (PySem.W.mroIn K D (.type "object") = some true)
theorem excCB_ok {K : PySem.W.Frag} {D : Addr} (h : excCB K D = true) : L2.ExcC K D := by
  unfold excCB at h
  obtain ⟨h, h8⟩ := and2 h
  obtain ⟨h, h7⟩ := and2 h
  obtain ⟨h, h6⟩ := and2 h
  obtain ⟨h, h5⟩ := and2 h
  obtain ⟨h, h4⟩ := and2 h
  obtain ⟨h, h3⟩ := and2 h
  obtain ⟨h1, h2⟩ := and2 h
  exact ⟨He.eqO_ok h1, He.eqO_ok h2, of_decide_eq_true h3, h4, He.eqO_ok h5, He.eqO_ok h6, of_decide_eq_true h7, of_decide_eq_true h8⟩
def kitB (exs : Exs) (K : PySem.W.Frag) : Bool := exs.k.all fun p => excCB K (He.ga K p.1) && !(p.2.1 == ("__debug__" : Str)) && decide (PySem.W.kitOne K (.ref (He.ga K p.1)) (if p.2.1 = veN then .type "ValueError" else .ref (He.ga K p.2.1)) = some p.2.2)
def moreB (gl : List (Str × D)) (exs : Exs) (K : PySem.W.Frag) : Bool := glbB gl K && kitB exs K
def fnOf (T : List Fn) (S : List Stmt) : List He.DefD := List.zipWith (fun (d : Fn) st => (⟨(d.name, none), d.name, d.name, defArgs st, defBody st, defScope st, [], []⟩ : He.DefD)) T S
def excOf (exs : Exs) : Xs := ⟨fun x c => exs.c.contains (x, c), fun x c => (exs.k.find? fun p => p.1 == x && p.2.1 == c).map fun p => p.2.2⟩
def scB (N : List Str) (np : Nat) (sc : Scope) : Bool :=
  (match sc.kind with | .function => true | _ => false) && !sc.isCoroutine && !sc.isGenerator && decide N.Nodup && decide (np ≤ N.length) && (N.take np).all (fun x => match sc.names.lookup x with | some .local => true | some .cell => true | _ => false) && sc.names.all fun y => match y.2 with | .free => false | _ => true
structure DOk (T : List Fn) (xx : Str → Bool) (d : Fn) (st : Stmt) : Prop where
  sc : scB d.N d.np (defScope st) = true
  chk : chkSs (defB T) xx d.body ⟨d.N, defScope st, fun _ => true⟩ (defBody st) = true
  bind : ∀ (kV doc pm : Value) (an : Option Addr) (cdv ct : Value) (us : List Value), us.length = d.np → bindArgs (PySem.W.fnOf d.name d.name (defArgs st) (defBody st) (defScope st) .none kV doc pm an cdv ct) ⟨us, []⟩ = pure ((d.N.take d.np).zip us)
inductive DOks (T : List Fn) (xx : Str → Bool) : List Fn → List Stmt → Prop where
  | nil : DOks T xx [] []
  | cons {d : Fn} {st : Stmt} {ds : List Fn} {sts : List Stmt} (h : DOk T xx d st) (r : DOks T xx ds sts) : DOks T xx (d :: ds) (st :: sts)
theorem sc_of {N : List Str} {np : Nat} {sc : Scope} (h : scB N np sc = true) : FnScope N (N.take np) sc ∧ np ≤ N.length := by
  unfold scB at h
  obtain ⟨h, h7⟩ := and2 h
  obtain ⟨h, h6⟩ := and2 h
  obtain ⟨h, h5⟩ := and2 h
  obtain ⟨h, h4⟩ := and2 h
  obtain ⟨h, h3⟩ := and2 h
  obtain ⟨h1, h2⟩ := and2 h
  have hn : np ≤ N.length := of_decide_eq_true h5
  refine ⟨⟨?_, notB h2, notB h3, of_decide_eq_true h4, by rw [List.length_take, Nat.min_eq_left hn], fun x hx => ?_, fun y hy e => ?_⟩, hn⟩
  · split at h1
    · assumption
    · cases h1
  · have q := List.all_eq_true.mp h6 x hx
    split at q
    · next e => exact .inl e
    · next e => exact .inr e
    · cases q
  · have q := List.all_eq_true.mp h7 y hy
    rw [e] at q
    cases q
theorem doks_at {T : List Fn} {xx : Str → Bool} {Tf : List Fn} : ∀ {ds : List Fn} {sts : List Stmt}, DOks Tf xx ds sts → ∀ d ∈ ds, ∃ st, DOk Tf xx d st ∧ (⟨(d.name, none), d.name, d.name, defArgs st, defBody st, defScope st, [], []⟩ : He.DefD) ∈ fnOf ds sts
  | _, _, .nil, d, hd => by cases hd
  | d0 :: ds, st :: sts, .cons h r, d, hd => by
    rcases List.mem_cons.mp hd with e | hd
    · subst e
      exact ⟨st, h, by unfold fnOf; rw [List.zipWith_cons_cons]; exact List.mem_cons_self⟩
    · obtain ⟨st', h', m⟩ := doks_at (T := T) r d hd
      exact ⟨st', h', by unfold fnOf at m ⊢; rw [List.zipWith_cons_cons]; exact List.mem_cons_of_mem _ m⟩
theorem lookup_mem {gl : List (Str × D)} {x : Str} {d : D} (h : gl.lookup x = some d) : (x, d) ∈ gl := by
  induction gl with
  | nil => cases h
  | cons p gl ih =>
    obtain ⟨y, e⟩ := p
    rw [List.lookup_cons] at h
    cases hb : x == y with
    | true =>
      rw [hb] at h
      cases h
      have : x = y := by simpa using hb
      subst this
      exact List.mem_cons_self
    | false =>
      rw [hb] at h
      exact List.mem_cons_of_mem _ (ih h)
theorem gf_of {P : Program} {K : PySem.W.Frag} {mg : Str → Option Value} {base : Heap} {T : List Fn} {S : List Stmt} {exs : Exs} {gl : List (Str × D)} (X : K.In base) (G : base.Ns mainGlobals mg) (seer : base.NoSeer) (tree : P.given.tree = none)
    (c : He.SaysD (faOf T exs) (fnOf T S) K) (more : moreB gl exs K = true) (hd : DOks T (fun x => excOf exs x x) T S) : GF P K mg base real (excOf exs) (fun x => gl.lookup x) T where
  bi := fun x hx => He.free_ok X G (He.SaysD.facts c (f := .free x) (List.mem_append_left _ (List.mem_append_left _ (List.mem_append_right _ (List.mem_map_of_mem hx)))))
  glb := fun x d h => by
    have q := List.all_eq_true.mp (and2 more).1 _ (lookup_mem h)
    dsimp only at q
    split at q
    · next u e =>
      obtain ⟨v, r, k⟩ := valB_ok q
      exact ⟨v, u, PySem.W.mg_of X G e, r, k⟩
    · cases q
  seer := seer
  tree := tree
  rse := fun x h => by
    have hm : (x, x) ∈ exs.c := by simpa [excOf] using h
    have m : ∀ f ∈ [He.Fa.glo x, .glo x, .exc x, .exm x x true], f ∈ faOf T exs := fun f hf => List.mem_append_left _ (List.mem_append_right _ (List.mem_flatMap.mpr ⟨_, hm, hf⟩))
    have e1 := He.glo_ok X G (He.SaysD.facts c (m (.glo x) (by simp)))
    obtain ⟨c1, c2, c3, c4⟩ := He.exc_ok (He.SaysD.facts c (m (.exc x) (by simp)))
    exact ⟨_, e1, c2, c1, c3, c4⟩
  exm := fun x y h => by
    have hm : (x, y) ∈ exs.c := by simpa [excOf] using h
    have m : ∀ f ∈ [He.Fa.glo x, .glo y, .exc x, .exm x y true], f ∈ faOf T exs := fun f hf => List.mem_append_left _ (List.mem_append_right _ (List.mem_flatMap.mpr ⟨_, hm, hf⟩))
    exact ⟨_, _, He.glo_ok X G (He.SaysD.facts c (m (.glo x) (by simp))), He.glo_ok X G (He.SaysD.facts c (m (.glo y) (by simp))), He.exm_ok (He.SaysD.facts c (m (.exm x y true) (by simp)))⟩
  kit := fun x y b h => by
    obtain ⟨p, hp, rfl⟩ := Option.map_eq_some_iff.mp (show ((exs.k.find? fun p => p.1 == x && p.2.1 == y).map fun p => p.2.2) = some b from h)
    have hm := List.mem_of_find?_eq_some hp
    have hxy : (p.1 == x && p.2.1 == y) = true := List.find?_some (p := fun p : Str × Str × Bool => p.1 == x && p.2.1 == y) hp
    obtain ⟨hx, hy⟩ := and2 hxy
    have ex : p.1 = x := eq_of_beq hx
    have ey : p.2.1 = y := eq_of_beq hy
    subst ex ey
    have m : ∀ f ∈ [He.Fa.glo p.1, if p.2.1 = veN then .free veN else .glo p.2.1], f ∈ faOf T exs := fun f hf => List.mem_append_right _ (List.mem_flatMap.mpr ⟨_, hm, hf⟩)
    have q := List.all_eq_true.mp (and2 more).2 _ hm
    obtain ⟨q, q3⟩ := and2 q
    obtain ⟨q1, q2⟩ := and2 q
    refine ⟨_, He.glo_ok X G (He.SaysD.facts c (m (.glo p.1) (by simp))), excCB_ok q1, ?_⟩
    have q3 := of_decide_eq_true q3
    by_cases hv : p.2.1 = veN
    · rw [if_pos hv] at q3
      refine .inr ⟨hv, ?_, q3⟩
      rw [hv]
      exact He.free_ok X G (He.SaysD.facts c (m (.free veN) (by simp [hv])))
    · rw [if_neg hv] at q3
      exact .inl ⟨_, He.glo_ok X G (He.SaysD.facts c (m (.glo p.2.1) (by simp [hv]))), notB q2, q3⟩
  defs := fun d hdT => by
    obtain ⟨st, ok, m⟩ := doks_at (T := T) hd d hdT
    obtain ⟨fd, F⟩ := He.SaysD.defs c m
    have e1 := He.glo_ok X G (He.SaysD.facts c (f := .glo d.name) (List.mem_append_left _ (List.mem_append_left _ (List.mem_append_left _ (List.mem_map_of_mem (f := fun d : Fn => He.Fa.glo d.name) hdT)))))
    obtain ⟨s1, s2⟩ := sc_of ok.sc
    exact ⟨_, fd, _, _, _, e1, F, s1, s2, ok.chk, ok.bind⟩
  len := fun n h => of_decide_eq_true h
  mul := fun i j h => real_mul h
  eq := fun d h => h
  rng := fun i h => by
    have h1 : -4611686018427387904 ≤ i := of_decide_eq_true (and2 h).1
    have h2 : i < 4611686018427387904 := of_decide_eq_true (and2 h).2
    exact ⟨by omega, by omega⟩
  dig := fun i h => of_decide_eq_true h

/-- of a heap nothing is hidden but the script's list -/
structure Hid (h : Heap) (a : Addr) (its : Array Value) (H : Hp) : Prop where
  here : h.get? a = some { cls := .type "list", data := .seq its }
  alone : ∀ b, H b ≠ none → b = a
section
variable {h : Heap} {a b : Addr} {its : Array Value} {H : Hp} {o : Obj} {m : Str → Option Value}
theorem Hid.other (q : Hid h a its H) (e : h.get? b = some o) (n : o.cls ≠ .type "list" ∨ ∃ es ep, o.data = .dict es ep) : (hidT h H).get? b = some o := by
  refine hidT_get e (Classical.byContradiction fun z => ?_)
  have := q.alone b z
  subst this
  rw [q.here] at e
  injection e with e
  subst e
  rcases n with n | ⟨es, ep, n⟩
  · exact n rfl
  · injection n
theorem Hid.dict (q : Hid h a its H) (n : h.Ns b m) : (hidT h H).Ns b m := by
  obtain ⟨od, es, ep, e, ed, r⟩ := n
  exact ⟨od, es, ep, q.other e (.inr ⟨es, ep, ed⟩), ed, r⟩
theorem Hid.frag {K : PySem.W.Frag} (q : Hid h a its H) (X : K.In h) (n : H a ≠ none → K.lookup a = none) : K.In (hidT h H) := fun c oc e => by
  refine hidT_get (X c oc e) (Classical.byContradiction fun z => ?_)
  have := q.alone c z
  subst this
  rw [n z] at e
  cases e
theorem Hid.seer (q : Hid h a its H) (n : h.NoSeer) : (hidT h H).NoSeer := by
  obtain ⟨⟨m1, a1, b1⟩, ⟨m2, a2, b2⟩, ⟨m3, a3, b3⟩, ⟨m4, bm, ob, a4, b4, c4, d4, e4⟩⟩ := n
  exact ⟨⟨m1, q.dict a1, b1⟩, ⟨m2, q.dict a2, b2⟩, ⟨m3, q.dict a3, b3⟩, ⟨m4, bm, ob, q.dict a4, b4, q.other c4 (.inl (by rw [d4]; decide)), d4, e4⟩⟩
end
section
variable {P : Program} {w : World} {K : PySem.W.Frag} {mg mb : Str → Option Value} {X : CXT} {k : Nat} {fa a : Addr} {fd : FuncData} {x : Str} {sp : Sp} {s : Shared} {us : List Value} {ns : List Int}
/-- what the call is to bring about -/
abbrev Back (s : Shared) : Result → Shared → Prop := fun r t => r = .ok (.ret (.bool true)) ∧ OldK s.heap t.heap ∧ t.os = s.os ∧ AllBare t.gens
theorem back_of {H : Hp} (hO : Only H) (okH : HOk P w H s.heap) (noX : ∀ e t, X [] H s (fun _ _ _ => False) e t → False) {r : Result} {t : Shared} (z : CR X [] P w H s (fun v _ => v = V.bl true) (fun _ _ _ => False) r t) : Back s r t := by
  cases r with
  | error e => exact (noX e t z).elim
  | ok fl =>
    cases fl <;> first | exact (show False from z).elim | skip
    obtain ⟨v, H', hos, hbare, hun, okH', rel, hv⟩ := z
    cases (show v = V.bl true from hv)
    cases rel
    refine ⟨rfl, .of_keep ?_, hos, hbare⟩
    intro c oc ec
    by_cases q : H c = none
    · exact hun.keep c oc ec q (fun z => (List.not_mem_nil z).elim) (fun z => (List.not_mem_nil z).elim)
    · obtain ⟨oz, zs, ez⟩ := (hO c).resolve_left q
      have e1 := (okH c _ ez).1
      have e2 := (okH' c _ (hun.frzs c oz _ ez)).1
      rw [ec] at e1
      injection e1 with e1
      rw [e1]; exact e2
theorem law_in {H : Hp} (q : Hid s.heap a us.toArray H) (hO : Only H) (okH : HOk P w H s.heap) (noK : H a ≠ none → K.lookup a = none) (KX : K.In s.heap) (g1 : s.heap.Ns mainGlobals mg) (g2 : s.heap.Ns builtinsNs mb) (g3 : ∀ x : Str, x ≠ "__name__" → mb x = bootBuiltins x) (g4 : s.heap.NoLimit) (g5 : s.heap.NoSeer) (g6 : s.gens = #[])
    (hr : Room k callerA) (F : ∀ base : Heap, K.In base → base.Ns mainGlobals mg → base.NoSeer → FnOk P w K mg base X k fa fd [x] sp) (hbind : BindsTo s fd ⟨[.ref a], []⟩ [(x, .ref a)])
    (hsp : sp [.ref a] H (fun v _ => v = .bl true) fun _ _ _ => False) (noX : ∀ e t, X [] H s (fun _ _ _ => False) e t → False) : codeAny (model P w) callerA (.call (.ref fa) ⟨[.ref a], []⟩) (Back s) s := by
  obtain ⟨mc, l1, l2⟩ := g4
  have hM : Mod K mg (hidT s.heap H) := ⟨q.frag KX noK, q.dict g1, ⟨mb, q.dict g2, g3⟩, ⟨mc, q.dict l1, l2⟩⟩
  have e0 : Env0 P w K mg (hidT s.heap H) callerA [] s H := ⟨rfl, hM, fun c oc e => of_hidT e, Nat.le_of_eq (hidT_size _ _), trivial, fun c hc => (List.not_mem_nil hc).elim, okH, .of_eq g6⟩
  have run := (F _ (q.frag KX noK) (q.dict g1) (q.seer g5)).run callerA [] s H ⟨[.ref a], []⟩ [.ref a] [.ref a] _ _ hr e0 hbind (.cons rfl .nil) hsp
  exact codeAny_mono run fun r t z => back_of hO okH noX z
theorem law_callS (KX : K.In s.heap) (g1 : s.heap.Ns mainGlobals mg) (g2 : s.heap.Ns builtinsNs mb) (g3 : ∀ x : Str, x ≠ "__name__" → mb x = bootBuiltins x) (g4 : s.heap.NoLimit) (g5 : s.heap.NoSeer) (g6 : s.gens = #[])
    (hs : s.heap.get? a = some { cls := .type "list", data := .seq us.toArray }) (hi : IntsAre us ns) (hl : ns.length ≤ sizeLine) (hr : Room k callerA)
    (F : ∀ base : Heap, K.In base → base.Ns mainGlobals mg → base.NoSeer → FnOk P w K mg base X k fa fd [x] sp) (hbind : BindsTo s fd ⟨[.ref a], []⟩ [(x, .ref a)])
    (hsp : ∀ H : Hp, FzL K H a (ns.map V.int) → sp [.ref a] H (fun v _ => v = .bl true) fun _ _ _ => False) (noX : ∀ H e t, X [] H s (fun _ _ _ => False) e t → False) : codeAny (model P w) callerA (.call (.ref fa) ⟨[.ref a], []⟩) (Back s) s := by
  have rel := vals_ints hi
  by_cases own : K.lookup a = none
  · let H : Hp := fun c => if c = a then some (.frz { cls := .type "list", data := .seq us.toArray } (.lst (ns.map V.int))) else none
    have at_ : H a = some (.frz { cls := .type "list", data := .seq us.toArray } (.lst (ns.map V.int))) := if_pos rfl
    have off : ∀ c, c ≠ a → H c = none := fun c hc => if_neg hc
    refine law_in (H := H) ⟨hs, fun c hc => Classical.byContradiction fun z => hc (off c z)⟩ (fun c => ?_) (fun c u e => ?_) (fun _ => own) KX g1 g2 g3 g4 g5 g6 hr F hbind (hsp H (.inl ⟨_, at_⟩)) (noX H)
    · by_cases hc : c = a
      · subst hc; exact .inr ⟨_, _, at_⟩
      · exact .inl (off c hc)
    · by_cases hc : c = a
      · subst hc
        rw [at_] at e
        injection e with e
        subst e
        exact ⟨hs, by rw [List.length_map]; exact hl, us, _, rel, hs⟩
      · rw [off c hc] at e; cases e
  · obtain ⟨o, e⟩ := Option.ne_none_iff_exists'.mp own
    have e2 := KX a o e
    rw [hs] at e2
    injection e2 with e2
    subst e2
    have ln : us.length = ns.length := hi.length
    refine law_in (H := fun _ => none) ⟨hs, fun c hc => (hc rfl).elim⟩ (fun _ => .inl rfl) (fun c u e => by cases (show (none : Option HO) = some u from e)) (fun z => (z rfl).elim) KX g1 g2 g3 g4 g5 g6 hr F hbind (hsp _ (.inr ⟨_, us.toArray, _, e, rfl, rfl, rfl, ?_, ?_⟩)) (noX _)
    · rw [List.size_toArray, ln]; exact hl
    · simpa using rel
end
theorem reps_ints {K : PySem.W.Frag} {H : Hp} : ∀ ns : List Int, Reps K H (ns.map V.int) (ns.map D.int) [] []
  | [] => .nil
  | n :: ns => .cons (f := []) (s := []) (.int n) (reps_ints ns)
/-- THE END: the law's def runs, as its core, to True -/
theorem walk_tv {l : PySem.W.OpenLaw} {n : Nat} {q : Program} {loose : List Str} {XP : (Str → Option Value) → Heap → Prop} {d : DefRec} {T : List Fn} {S : List Stmt} {exs : Exs} {gl : List (Str × D)} {dl : Fn} {lev : Nat}
    (hn : l.most = some n) (hn2 : n ≤ sizeLine) (hdf : d.params.defaults = []) (hr : Room (lev + lvl) callerA) (hq : importsNone q = true) (tree : l.prog.given.tree = none) (hd : DOks T (fun x => excOf exs x x) T S)
    (hT : T.find? (fun f => f.name == d.name) = some dl) (hnp : dl.np = 1)
    (hlaw : ∀ ns : List Int, ns.length ≤ n → (∀ z ∈ ns, Builtin.Int.intBits z ≤ 1048576) → run real (excOf exs) (fun x => gl.lookup x) T lev d.name [.lst .fz (ns.map D.int)] = some (.ok (.bl true))) (steps : Nat) :
    PySem.W.WalkO q loose XP (He.hookX steps (faOf T exs) (fnOf T S) [] [] (moreB gl exs)).says l.row.toRowW d [] (fun f vs => PySem.call f vs) := by
  refine Att.attach_callB hn hdf fun w s₀ s₁ mg mb fa o pm cd doc a vs ns G Y ho hdd hcd hmg hobj hints hlen hbits hg => ?_
  obtain ⟨K, KX, c⟩ := Y
  have F := fun (base : Heap) (X : K.In base) (G : base.Ns mainGlobals mg) (seer : base.NoSeer) => call_ok (P := l.prog) (w := w) (gf_of (gl := gl) X G seer tree c.t.d c.more hd) lev d.name dl hT
  have F0 := F _ KX G.T.g (G.T.seer hq)
  obtain ⟨fa0, fd, h1, h2, h3, h4, h5, ⟨_, _, _, hlk⟩, h6⟩ := F0
  rw [hmg] at h1
  cases h1
  have hps : ∃ x, dl.N.take dl.np = [x] := by
    rw [hnp]
    cases e : dl.N with
    | nil => rw [hnp, e] at h5; simp at h5
    | cons x xs => exact ⟨x, by simp⟩
  obtain ⟨x, hx⟩ := hps
  refine law_callS (k := lev + lvl) (x := x) (X := L2.CX l.prog w) (sp := spD K mg dl.np (run real (excOf exs) (fun x => gl.lookup x) T lev d.name)) KX G.T.g G.T.b G.T.builtins G.T.nolimit (G.T.seer hq) hg hobj hints (Nat.le_trans hlen hn2) hr (fun base X G seer => ?_) (by have := h4 s₁ [.ref a] (by rw [hnp]; rfl); rw [hx] at this; exact this) (fun H hS => ?_) fun H e s' h => ?_
  · obtain ⟨fa1, fd1, g1, g2, g3, g4, g5, ⟨_, _, _, glk⟩, g6⟩ := F base X G seer
    rw [hmg] at g1
    cases g1
    rw [hx] at g6
    rw [hlk] at glk
    cases glk
    exact g6
  · refine ⟨[.lst .fz (ns.map D.int)], [], .cons (f := []) (s := []) (.fz hS (reps_ints ns)) .nil, by rw [hnp]; rfl, .inl ⟨_, hlaw ns hlen hbits, fun v H' si => ?_⟩⟩
    obtain ⟨_, _, r, _⟩ := si
    cases r with
    | cons r _ => cases r; rfl
  · obtain ⟨_, _, _, _, _, _, _, _, _, _, _, _, z⟩ := h
    exact z
end TV
namespace TV
open PySem PySem.Spec PyProof.Rows L2

def fin : Option SRes → Option CRes
  | some (.rt x) => some (.ok x)
  | some (.nx _) => some (.ok .non)
  | some (.ex c _) => some (.ex c)
  | _ => none
section
variable {L : Lim} {exc : Xs} {glb : Str → Option D} {T : List Fn}
/-- what a def is run in -/
noncomputable abbrev ctx (L : Lim) (exc : Xs) (glb : Str → Option D) (T : List Fn) (n : Nat) : Ctx := ⟨L, run L exc glb T n, defB T, exc, glb⟩
/-- is this def of the program -/
abbrev Has (T : List Fn) (d : Fn) : Prop := T.find? (fun f => f.name == d.name) = some d
theorem run_eq {n : Nat} {f : Str} {d : Fn} {ds : List D} (h : T.find? (fun d => d.name == f) = some d) (hl : ds.length = d.np) : run L exc glb T (n + 1) f ds = fin (evSs (ctx L exc glb T n) d.body (startE d.N.length ds)) := by
  rw [run, h]
  dsimp only
  rw [if_pos hl]
  show _ = fin (evSs (ctx L exc glb T n) d.body (startE d.N.length ds))
  change (match evSs (ctx L exc glb T n) d.body (startE d.N.length ds) with
    | some (SRes.rt x) => some (CRes.ok x)
    | some (SRes.nx _) => some (CRes.ok D.non)
    | some (SRes.ex c _) => some (CRes.ex c)
    | _ => none) = _
  cases evSs (ctx L exc glb T n) d.body (startE d.N.length ds) with
  | none => rfl
  | some r => cases r <;> rfl
end
section
variable {c : Env → Out Tm} {b : Env → Option SRes}
theorem whN_mono : ∀ (n k : Nat) {env : Env} {r : SRes}, whN c b n env = some r → whN c b (n + k) env = some r
  | 0, k, env, r, h => by rw [whN] at h; cases h
  | n + 1, k, env, r, h => by
    have e : n + 1 + k = (n + k) + 1 := by omega
    rw [e]
    rw [whN] at h ⊢
    revert h
    cases c env with
    | none => exact fun h => h
    | some q =>
      cases q with
      | ex x e => exact fun h => h
      | ok t e1 =>
        dsimp only [sbnd]
        cases asB e1 t with
        | none => exact fun h => h
        | some y =>
          cases y with
          | false => exact fun h => h
          | true =>
            dsimp only
            cases b e1 with
            | none => exact fun h => h
            | some z =>
              cases z with
              | nx e => exact fun h => whN_mono n k h
              | ct e => exact fun h => whN_mono n k h
              | bk e => exact fun h => h
              | rt e => exact fun h => h
              | ex x e => exact fun h => h
theorem whP_of {n : Nat} {env : Env} {r : SRes} (h : whN c b n env = some r) : whP c b env = some r := by
  have hx : ∃ n, (whN c b n env).isSome = true := ⟨n, by rw [h]; rfl⟩
  unfold whP
  rw [dif_pos hx]
  have hs := Classical.choose_spec hx
  cases q : whN c b (Classical.choose hx) env with
  | none => rw [q] at hs; cases hs
  | some r' =>
    have e1 := whN_mono _ (Classical.choose hx) h
    have e2 := whN_mono _ n q
    rw [Nat.add_comm] at e2
    rw [e2] at e1
    exact e1
/-- one turn of a while -/
theorem whP_step {env e1 : Env} {t : Tm} (h1 : c env = some (.ok t e1)) (h2 : asB e1 t = some true) {e2 : Env} (h3 : b e1 = some (.nx e2)) {r : SRes} (h : ∃ n, whN c b n e2 = some r) : ∃ n, whN c b n env = some r := by
  obtain ⟨n, h⟩ := h
  refine ⟨n + 1, ?_⟩
  rw [whN, h1]
  simp only [sbnd, h2, h3]
  exact h
theorem whP_end {env e1 : Env} {t : Tm} (h1 : c env = some (.ok t e1)) (h2 : asB e1 t = some false) : ∃ n, whN c b n env = some (.nx e1) := by
  refine ⟨1, ?_⟩
  rw [whN, h1]
  simp only [sbnd, h2]
end
theorem forGo_same {b : D → Env → Option SRes} {env : Env} : ∀ {items : List D}, (∀ d ∈ items, b d env = some (.nx env)) → forGo b items env = some (.nx env)
  | [], _ => rfl
  | d :: ds, h => by
    rw [forGo, h d List.mem_cons_self]
    exact forGo_same fun d' hd => h d' (List.mem_cons_of_mem _ hd)
theorem forGo_fold {α : Type} {b : D → Env → Option SRes} (mk : α → Env) (f : α → D → α) (P : α → Prop) : ∀ {items : List D} {a : α}, P a → (∀ a d, P a → d ∈ items → b d (mk a) = some (.nx (mk (f a d))) ∧ P (f a d)) → forGo b items (mk a) = some (.nx (mk (items.foldl f a))) ∧ P (items.foldl f a)
  | [], a, hp, _ => ⟨rfl, hp⟩
  | d :: ds, a, hp, h => by
    obtain ⟨h1, h2⟩ := h a d hp List.mem_cons_self
    rw [forGo, h1]
    exact forGo_fold mk f P h2 fun a d' hp hd => h a d' hp (List.mem_cons_of_mem _ hd)

def Bd (n : Nat) (i : Int) : Prop := i.natAbs < 2 ^ n
theorem Bd.mono {n m : Nat} {i : Int} (h : Bd n i) (hm : n ≤ m) : Bd m i := Nat.lt_of_lt_of_le h (Nat.pow_le_pow_right (by decide) hm)
theorem Bd.log {n : Nat} {i : Int} (h : Bd n i) : i.natAbs.log2 ≤ n := by
  by_cases h0 : i.natAbs = 0
  · rw [h0]; simp
  · have := (Nat.log2_lt h0).mpr h
    omega
theorem Bd.add {n m : Nat} {i j : Int} (h : Bd n i) (h' : Bd m j) : Bd (max n m + 1) (i + j) := by
  have h1 := h.mono (Nat.le_max_left n m)
  have h2 := h'.mono (Nat.le_max_right n m)
  unfold Bd at *
  have := Int.natAbs_add_le i j
  rw [Nat.pow_succ]
  omega
theorem Bd.neg {n : Nat} {i : Int} (h : Bd n i) : Bd n (-i) := by
  unfold Bd at *
  rwa [Int.natAbs_neg]
theorem Bd.sub {n m : Nat} {i j : Int} (h : Bd n i) (h' : Bd m j) : Bd (max n m + 1) (i - j) := by
  rw [Int.sub_eq_add_neg]
  exact h.add h'.neg
theorem Bd.mul {n m : Nat} {i j : Int} (h : Bd n i) (h' : Bd m j) : Bd (n + m) (i * j) := by
  unfold Bd at *
  rw [Int.natAbs_mul, Nat.pow_add]
  have p : 0 < 2 ^ m := Nat.pow_pos (by decide)
  exact Nat.lt_of_le_of_lt (Nat.mul_le_mul_right _ (Nat.le_of_lt h)) (Nat.mul_lt_mul_of_pos_left h' (Nat.pow_pos (by decide)))
theorem Bd.of {n : Nat} {i : Int} (h1 : -(2 ^ n : Int) < i) (h2 : i < 2 ^ n) : Bd n i := by
  unfold Bd
  have e : ((2 ^ n : Nat) : Int) = 2 ^ n := by norm_cast
  omega
theorem Bd.bits {n : Nat} {i : Int} (h : Builtin.Int.intBits i ≤ n) : Bd n i := by
  unfold Builtin.Int.intBits at h
  unfold Bd
  split at h
  · next e =>
    have : i = 0 := by simpa using e
    subst this
    exact Nat.pow_pos (by decide)
  · next e =>
    have h0 : i.natAbs ≠ 0 := by
      intro z
      apply e
      have : i = 0 := Int.natAbs_eq_zero.mp z
      simp [this]
    exact (Nat.log2_lt h0).mp (by omega)
theorem mul_real {n m : Nat} {i j : Int} (h : Bd n i) (h' : Bd m j) (hs : n + m ≤ 2 ^ 26) : real.mul i j = true := by
  have h1 := h.log
  have h2 := h'.log
  exact decide_eq_true (by omega)
/-- a fraction as the program has it -/
def enc (q : Rat) : D := .tup [.int q.num, .int q.den]
theorem real_eq_int (i : Int) : real.eq (.int i) = true := by rfl
theorem real_eq_bl (i : Bool) : real.eq (.bl i) = true := by rfl
theorem real_eq_non : real.eq .non = true := by rfl
theorem real_eq_enc (q : Rat) : real.eq (enc q) = true := by rfl
theorem real_eq_enc2 (i j : Int) : real.eq (.tup [.int i, .int j]) = true := by rfl
theorem eqD_int (i j : Int) : eqD (.int i) (.int j) = decide (i = j) := by simp [eqD, D.py, PyData.eqv]; rfl
theorem eqD_bl (i j : Bool) : eqD (.bl i) (.bl j) = (i == j) := by simp [eqD, D.py, PyData.eqv]
theorem eqD_pair (a b c d : Int) : eqD (.tup [.int a, .int b]) (.tup [.int c, .int d]) = (decide (a = c) && decide (b = d)) := by
  simp [eqD, D.py, pyL, PyData.eqv, PyData.eqvAll]; rfl
theorem real_len {n : Nat} (h : n < 2 ^ 24) : real.len n = true := decide_eq_true h
theorem real_rng {i : Int} (h1 : -(2 ^ 62) ≤ i) (h2 : i < 2 ^ 62) : real.rng i = true := by
  have h3 : -4611686018427387904 ≤ i := by omega
  have h4 : i < 4611686018427387904 := by omega
  show (decide _ && decide _) = true
  rw [decide_eq_true h3, decide_eq_true h4]; rfl
theorem atI0 {α : Type} {a : α} {l : List α} : atI (a :: l) 0 = some a := by simp [atI, ixN]
theorem atI1 {α : Type} {a b : α} {l : List α} : atI (a :: b :: l) 1 = some b := by
  have : (1 : Int) < (l.length : Int) + 1 + 1 := by omega
  simp [atI, ixN, this]
theorem castn0 : ((0 : Nat) : Int) = 0 := rfl
theorem castn1 : ((1 : Nat) : Int) = 1 := rfl
theorem castn2 : ((2 : Nat) : Int) = 2 := rfl
theorem castn3 : ((3 : Nat) : Int) = 3 := rfl
theorem castn4 : ((4 : Nat) : Int) = 4 := rfl
theorem castn5 : ((5 : Nat) : Int) = 5 := rfl
theorem nab10 : Int.natAbs 10 = 10 := rfl
theorem nab2 : Int.natAbs 2 = 2 := rfl
theorem evE_mv (C : Ctx) (i : Nat) (env : Env) : evE C (.mv i) env = (match env[i]? with
    | some .hole => none
    | some d => some (.ok (.val d) (env.set i .hole))
    | none => none) := by rfl
theorem evE_fr (C : Ctx) (i : Nat) (env : Env) : evE C (.fr i) env = (match env[i]? with
    | some .hole => none
    | some d => some (.ok (.val d.share) (env.set i d.share))
    | none => none) := by rfl
theorem evE_bo (C : Ctx) (i : Nat) (env : Env) : evE C (.bo i) env = (match env[i]? with
    | some .hole => none
    | some _ => some (.ok (.bor i) env)
    | none => none) := by rfl
theorem evE_lit (C : Ctx) (d : D) (env : Env) : evE C (.lit d) env = (if litD d then some (.ok (.val d) env) else none) := by rfl
theorem evE_glb (C : Ctx) (x : Str) (env : Env) : evE C (.glb x) env = (match C.glb x with
    | some d => some (.ok (.val d) env)
    | none => none) := by rfl
theorem evE_shr (C : Ctx) (e : E) (env : Env) : evE C (.shr e) env = (bnd (evE C e env) fun t env1 => match t with
    | .val d => some (.ok (.val d.share) env1)
    | .bor _ => none) := by rfl
theorem evE_bin (C : Ctx) (op : Operator) (a : E) (b : E) (env : Env) : evE C (.bin op a b) env = (bnd (evE C a env) fun t1 e1 => bnd (evE C b e1) fun t2 e2 => obnd (raw e2 t1) fun x => obnd (raw e2 t2) fun y => obnd (opBin C.L op x y) fun z => some (.ok (.val z) e2)) := by rfl
theorem evE_neg (C : Ctx) (a : E) (env : Env) : evE C (.neg a) env = (bnd (evE C a env) fun t e1 => obnd (raw e1 t) fun x => obnd (opNeg x) fun z => some (.ok (.val z) e1)) := by rfl
theorem evE_not (C : Ctx) (a : E) (env : Env) : evE C (.not a) env = (bnd (evE C a env) fun t e1 => obnd (raw e1 t) fun x => obnd (opNot x) fun z => some (.ok (.val z) e1)) := by rfl
theorem evE_and (C : Ctx) (a : E) (b : E) (env : Env) : evE C (.and a b) env = (bnd (evE C a env) fun t e1 => match raw e1 t with
    | some (.bl true) => bnd (evE C b e1) fun t2 e2 => match raw e2 t2 with
      | some (.bl y) => some (.ok (.val (.bl y)) e2)
      | _ => none
    | some (.bl false) => some (.ok (.val (.bl false)) e1)
    | _ => none) := by rfl
theorem evE_or (C : Ctx) (a : E) (b : E) (env : Env) : evE C (.or a b) env = (bnd (evE C a env) fun t e1 => match raw e1 t with
    | some (.bl false) => bnd (evE C b e1) fun t2 e2 => match raw e2 t2 with
      | some (.bl y) => some (.ok (.val (.bl y)) e2)
      | _ => none
    | some (.bl true) => some (.ok (.val (.bl true)) e1)
    | _ => none) := by rfl
theorem evE_cmp (C : Ctx) (op : CmpOp) (a : E) (b : E) (env : Env) : evE C (.cmp op a b) env = (bnd (evE C a env) fun t1 e1 => bnd (evE C b e1) fun t2 e2 => obnd (res e2 t1) fun x => obnd (res e2 t2) fun y => obnd (opCmp C.L op x y) fun z => some (.ok (.val z) e2)) := by rfl
theorem evE_ix (C : Ctx) (a : E) (i : E) (env : Env) : evE C (.ix a i) env = (bnd (evE C a env) fun t1 e1 => bnd (evE C i e1) fun t2 e2 => obnd (raw e2 t1) fun x => obnd (raw e2 t2) fun k => obnd (ixD C.L t1 x k) fun z => some (.ok (.val z) e2)) := by rfl
theorem evE_pth (C : Ctx) (i : Nat) (k : E) (j : E) (env : Env) : evE C (.pth i k j) env = (bnd (evE C k env) fun t1 e1 => bnd (evE C j e1) fun t2 e2 => obnd (raw e2 (.bor i)) fun x => obnd (raw e2 t1) fun y => obnd (raw e2 t2) fun z =>
      match x, y, z with
      | .lst _ ds, .int n, .int m => match atI ds n with
        | some (.lst _ es) => match atI es m with
          | some d => if d.noOw then some (.ok (.val d) e2) else none
          | none => none
        | _ => none
      | _, _, _ => none) := by rfl
theorem evE_sl (C : Ctx) (a : E) (lo : Eo) (hi : Eo) (env : Env) : evE C (.sl a lo hi) env = (bnd (evE C a env) fun t e1 => bnd (evEo C lo e1) fun l e2 => bnd (evEo C hi e2) fun h e3 => obnd (raw e3 t) fun x => obnd (slD C.L x l h) fun z => some (.ok (.val z) e3)) := by rfl
theorem evE_tup (C : Ctx) (es : Es) (env : Env) : evE C (.tup es) env = (bnd (evEs C es env) fun ts e1 => obnd (valsL ts) fun ds => some (.ok (.val (.tup ds)) e1)) := by rfl
theorem evE_lst (C : Ctx) (es : Es) (env : Env) : evE C (.lst es) env = (bnd (evEs C es env) fun ts e1 => obnd (valsL ts) fun ds => some (.ok (.val (.lst .ow ds)) e1)) := by rfl
theorem evE_call (C : Ctx) (f : Str) (es : Es) (env : Env) : evE C (.call f es) env = (bnd (evEs C es env) fun ts e1 => obnd (resL e1 ts) fun ds => match C.call f (shareL ds) with
    | some (.ok d) => if anyBor ts && !d.noSh then none else some (.ok (.val d) e1)
    | some (.ex c) => some (.ex c e1)
    | none => none) := by rfl
theorem evE_bi (C : Ctx) (f : Bi) (es : Es) (env : Env) : evE C (.bi f es) env = (bnd (evEs C es env) fun ts e1 => obnd (rawL e1 ts) fun ds => obnd (opBi C.L f ds) fun z => some (.ok (.val z) e1)) := by rfl
theorem evE_isi (C : Ctx) (a : E) (c : Ty) (env : Env) : evE C (.isi a c) env = (bnd (evE C a env) fun t e1 => obnd (res e1 t) fun x => obnd (isD x c) fun b => some (.ok (.val (.bl b)) e1)) := by rfl
theorem evE_pop (C : Ctx) (i : Nat) (env : Env) : evE C (.pop i) env = (match env[i]? with
    | some (.lst .ow ds) => match ds.getLast? with
      | some d => if d.whole then some (.ok (.val d) (env.set i (.lst .ow ds.dropLast))) else none
      | none => none
    | _ => none) := by rfl
theorem evE_lrv (C : Ctx) (e : E) (env : Env) : evE C (.lrv e) env = (bnd (evE C e env) fun t e1 => match raw e1 t with
    | some (.lst _ ds) => if noOwL ds then some (.ok (.val (.lst .ow ds.reverse)) e1) else none
    | _ => none) := by rfl
theorem evE_lrg (C : Ctx) (a : E) (env : Env) : evE C (.lrg a) env = (bnd (evE C a env) fun t e1 => match raw e1 t with
    | some (.int j) => bif C.L.rng j && C.L.len j.toNat then some (.ok (.val (.lst .ow (rgD 0 j.toNat 1))) e1) else none
    | _ => none) := by rfl
theorem evEs_nil (C : Ctx)  (env : Env) : evEs C (.nil) env = (some (.ok [] env)) := by rfl
theorem evEs_cons (C : Ctx) (e : E) (es : Es) (env : Env) : evEs C (.cons e es) env = (bnd (evE C e env) fun t e1 => bnd (evEs C es e1) fun ts e2 => some (.ok (t :: ts) e2)) := by rfl
theorem evEo_no (C : Ctx)  (env : Env) : evEo C (.no) env = (some (.ok none env)) := by rfl
theorem evEo_so (C : Ctx) (e : E) (env : Env) : evEo C (.so e) env = (bnd (evE C e env) fun t e1 => match raw e1 t with
    | some (.int i) => some (.ok (some i) e1)
    | _ => none) := by rfl
theorem evC_no (C : Ctx)  (env : Env) : evC C (.no) env = (some (.ok true env)) := by rfl
theorem evC_so (C : Ctx) (e : E) (env : Env) : evC C (.so e) env = (bnd (evE C e env) fun t e1 => match raw e1 t with
    | some (.bl b) => some (.ok b e1)
    | _ => none) := by rfl
theorem evIt_list (C : Ctx) (e : E) (env : Env) : evIt C (.list e) env = (bnd (evE C e env) fun t e1 => match t with
    | .val (.lst k ds) => if noOwL ds then some (.ok ([.lst k ds], ds) e1) else none
    | _ => none) := by rfl
theorem evIt_rg1 (C : Ctx) (a : E) (env : Env) : evIt C (.rg1 a) env = (bnd (evE C a env) fun t e1 => match raw e1 t with
    | some (.int j) => bif C.L.rng j then some (.ok ([], rgD 0 j.toNat 1) e1) else none
    | _ => none) := by rfl
theorem evIt_rg2 (C : Ctx) (a : E) (b : E) (env : Env) : evIt C (.rg2 a b) env = (bnd (evE C a env) fun t1 e1 => bnd (evE C b e1) fun t2 e2 => match raw e2 t1, raw e2 t2 with
    | some (.int i), some (.int j) => bif C.L.rng i && C.L.rng j then some (.ok ([], rgD i (j - i).toNat 1) e2) else none
    | _, _ => none) := by rfl
theorem evIt_rg3 (C : Ctx) (a : E) (b : E) (c : E) (env : Env) : evIt C (.rg3 a b c) env = (bnd (evE C a env) fun t1 e1 => bnd (evE C b e1) fun t2 e2 => bnd (evE C c e2) fun t3 e3 => match raw e3 t1, raw e3 t2, raw e3 t3 with
    | some (.int i), some (.int j), some (.int k) => bif C.L.rng i && C.L.rng j && rgSteps.contains k then some (.ok ([], rgD i (rgN i j k) k) e3) else none
    | _, _, _ => none) := by rfl
theorem evIt_rev (C : Ctx) (e : E) (env : Env) : evIt C (.rev e) env = (bnd (evE C e env) fun t e1 => match t with
    | .val (.lst k ds) => if noOwL ds then some (.ok ([.lst k ds], ds.reverse) e1) else none
    | _ => none) := by rfl
theorem evIt_zip (C : Ctx) (es : Es) (env : Env) : evIt C (.zip es) env = (bnd (evEs C es env) fun ts e1 => obnd (valsL ts) fun ds => obnd (itemsOf ds) fun p => some (.ok p e1)) := by rfl
theorem evIt_enum (C : Ctx) (e : E) (env : Env) : evIt C (.enum e) env = (bnd (evE C e env) fun t e1 => match t with
    | .val (.lst k ds) => if noOwL ds then some (.ok ([.lst k ds], enumD 0 ds) e1) else none
    | _ => none) := by rfl
theorem evIt_str (C : Ctx) (e : E) (env : Env) : evIt C (.str e) env = (bnd (evE C e env) fun t e1 => match raw e1 t with
    | some (.str x) => some (.ok ([], x.cps.toList.map fun c => .str ⟨#[c]⟩) e1)
    | _ => none) := by rfl
theorem evIt_brw (C : Ctx) (i : Nat) (env : Env) : evIt C (.brw i) env = (match env[i]? with
    | some (.lst .ow ds) => if noOwL ds then some (.ok ([.lst .ow ds], ds) (env.set i .hole)) else none
    | _ => none) := by rfl
theorem evIt_tupi (C : Ctx) (e : E) (env : Env) : evIt C (.tupi e) env = (bnd (evE C e env) fun t e1 => match t with
    | .val (.tup ds) => if noOwL ds then some (.ok ([.tup ds], ds) e1) else none
    | _ => none) := by rfl
theorem evS_asg (C : Ctx) (i : Nat) (e : E) (env : Env) : evS C (.asg i e) env = (sbnd (evE C e env) fun t e1 => match t with
    | .val d => some (.nx (e1.set i d))
    | .bor _ => none) := by rfl
theorem evS_unp (C : Ctx) (is : List Nat) (e : E) (env : Env) : evS C (.unp is e) env = (sbnd (evE C e env) fun t e1 => match t with
    | .val (.tup ds) => if ds.length = is.length then some (.nx (putE is ds e1)) else none
    | .val (.lst _ ds) => if ds.length = is.length && noOwL ds then some (.nx (putE is ds e1)) else none
    | _ => none) := by rfl
theorem evS_par (C : Ctx) (i : Nat) (j : Nat) (a : E) (b : E) (env : Env) : evS C (.par i j a b) env = (sbnd (evE C a env) fun t1 e1 => sbnd (evE C b e1) fun t2 e2 => match t1, t2 with
    | .val x, .val y => some (.nx ((e2.set i x).set j y))
    | _, _ => none) := by rfl
theorem evS_swp (C : Ctx) (i : Nat) (a : E) (b : E) (c : E) (d : E) (env : Env) : evS C (.swp i a b c d) env = (sbnd (evE C c env) fun t1 e1 => sbnd (evE C d e1) fun t2 e2 => match t1, t2 with
    | .val x, .val y => if !owAt i e2 then none else sbnd (evE C a e2) fun t3 e3 => match stIx i t3 x e3 with
      | some e4 => if !owAt i e4 then none else sbnd (evE C b e4) fun t4 e5 => match stIx i t4 y e5 with
        | some e6 => some (.nx e6)
        | none => none
      | none => none
    | _, _ => none) := by rfl
theorem evS_set1 (C : Ctx) (i : Nat) (k : E) (e : E) (env : Env) : evS C (.set1 i k e) env = (sbnd (evE C e env) fun t e1 => match t with
    | .val d => if !owAt i e1 then none else sbnd (evE C k e1) fun t2 e2 => match stIx i t2 d e2 with
      | some e3 => some (.nx e3)
      | none => none
    | .bor _ => none) := by rfl
theorem evS_aug (C : Ctx) (i : Nat) (op : Operator) (e : E) (env : Env) : evS C (.aug i op e) env = (match env[i]? with
    | some (.int x) => sbnd (evE C e env) fun t e1 => match op, raw e1 t with
      | .Add, some (.int y) => some (.nx (e1.set i (.int (x + y))))
      | .Sub, some (.int y) => some (.nx (e1.set i (.int (x - y))))
      | _, _ => none
    | _ => none) := by rfl
theorem evS_mut0 (C : Ctx) (m : Mt) (i : Nat) (es : Es) (env : Env) : evS C (.mut0 m i es) env = (if !owAt i env then none else sbnd (evEs C es env) fun ts e1 => match valsL ts, e1[i]? with
    | some as, some (.lst .ow ds) => match mutD C.L m ds as with
      | some ds' => some (.nx (e1.set i (.lst .ow ds')))
      | none => none
    | _, _ => none) := by rfl
theorem evS_ex (C : Ctx) (e : E) (env : Env) : evS C (.ex e) env = (sbnd (evE C e env) fun _ e1 => some (.nx e1)) := by rfl
theorem evS_ifs (C : Ctx) (c : E) (a : Ss) (b : Ss) (env : Env) : evS C (.ifs c a b) env = (sbnd (evE C c env) fun t e1 => match asB e1 t with
    | some true => evSs C a e1
    | some false => evSs C b e1
    | none => none) := by rfl
theorem evS_scn (C : Ctx) (i : Nat) (tg : Tg) (c : E) (d : D) (env : Env) : evS C (.scn i tg c d) env = (sbnd (evIt C (.brw i) env) fun p e1 => scnEnd d i p.1 (scnGo (evE C c) tg p.2 e1)) := by rfl
theorem evS_ret (C : Ctx) (e : E) (env : Env) : evS C (.ret e) env = (sbnd (evE C e env) fun t _ => match t with
    | .val d => some (.rt d)
    | .bor _ => none) := by rfl
theorem evS_rse (C : Ctx) (c : Str) (env : Env) : evS C (.rse c) env = (some (.ex c env)) := by rfl
theorem evS_try1 (C : Ctx) (b : Ss) (c : Str) (h : List (Nat × D)) (env : Env) : evS C (.try1 b c h) env = (match evSs C b env with
    | some (.ex x e) => if C.exc x c && h.all (fun p => atom p.2) then some (.nx (h.foldl (fun e p => e.set p.1 p.2) e)) else none
    | r => r) := by rfl
theorem evS_try2 (C : Ctx) (b : Ss) (c : Str) (i : Nat) (h : List Hk) (env : Env) : evS C (.try2 b c i h) env = (match evSs C b env with
    | some (.ex x e) => if C.exc x c && decide (i < e.length) then match hkGo C.L (C.exc.k x) h (e.set i .hole) with
        | some e2 => some (.nx (e2.set i .hole))
        | none => none
      else none
    | r => r) := by rfl
theorem evS_brk (C : Ctx)  (env : Env) : evS C (.brk) env = (some (.bk env)) := by rfl
theorem evS_cnt (C : Ctx)  (env : Env) : evS C (.cnt) env = (some (.ct env)) := by rfl
theorem evS_pas (C : Ctx)  (env : Env) : evS C (.pas) env = (some (.nx env)) := by rfl
theorem evS_kil (C : Ctx) (is : List Nat) (env : Env) : evS C (.kil is) env = (some (.nx (kill is env))) := by rfl
theorem evSs_nil (C : Ctx)  (env : Env) : evSs C (.nil) env = (some (.nx env)) := by rfl

/-- loops and comprehensions, kept whole -/
noncomputable def loopW (C : Ctx) (c : E) (b : Ss) (env : Env) : Option SRes := whP (evE C c) (evSs C b) env
noncomputable def bodF (C : Ctx) (tg : Tg) (b : Ss) (d : D) (env : Env) : Option SRes := match setTg tg d env with
  | some e2 => evSs C b e2
  | none => none
noncomputable def loopF (C : Ctx) (tg : Tg) (b : Ss) (items : List D) (env : Env) : Option SRes := forGo (bodF C tg b) items env
def loopC (C : Ctx) (elt : E) (tg : Tg) (cond : Eo) (own : List Nat) (items : List D) (env : Env) : Out Tm := match compGo (lcF C elt tg cond own) items env with
  | some (ds, e5) => some (.ok (.val (.lst .ow ds)) (kill own e5))
  | none => none
def sq (r : Option SRes) (f : Env → Option SRes) : Option SRes := match r with
  | some (.nx e) => f e
  | some (.rt d) => some (.rt d)
  | some (.bk e) => some (.bk e)
  | some (.ct e) => some (.ct e)
  | some (.ex x e) => some (.ex x e)
  | none => none
theorem sq_nx {e : Env} {f : Env → Option SRes} : sq (some (.nx e)) f = f e := rfl
theorem sq_rt {e : D} {f : Env → Option SRes} : sq (some (.rt e)) f = some (.rt e) := rfl
theorem sq_bk {e : Env} {f : Env → Option SRes} : sq (some (.bk e)) f = some (.bk e) := rfl
theorem sq_ct {e : Env} {f : Env → Option SRes} : sq (some (.ct e)) f = some (.ct e) := rfl
theorem sq_ex {x : Str} {e : Env} {f : Env → Option SRes} : sq (some (.ex x e)) f = some (.ex x e) := rfl
theorem evSs_cons (C : Ctx) (s : S) (ss : Ss) (env : Env) : evSs C (.cons s ss) env = sq (evS C s env) (evSs C ss) := by
  rw [evSs]; rfl
theorem evS_whl (C : Ctx) (c : E) (b : Ss) (env : Env) : evS C (.whl c b) env = loopW C c b env := by rfl
theorem evS_frs (C : Ctx) (tg : Tg) (it : Itr) (b : Ss) (env : Env) : evS C (.frs tg it b) env = sbnd (evIt C it env) fun p e1 => loopF C tg b p.2 e1 := by rfl
theorem evE_lc (C : Ctx) (elt : E) (tg : Tg) (it : Itr) (cond : Eo) (own : List Nat) (env : Env) : evE C (.lc elt tg it cond own) env = bnd (evIt C it env) fun p e1 => bif C.L.len p.2.length then bnd (loopC C elt tg cond own p.2 e1) fun t e2 => some (.ok t (putBack it.bk p.1 e2)) else none := by
  rw [evE]
  congr 1
  funext p e1
  cases C.L.len p.2.length with
  | false => rfl
  | true =>
    show (match compGo (lcF C elt tg cond own) p.2 e1 with
      | some (ds, e5) => some (R.ok (Tm.val (D.lst .ow ds)) (putBack it.bk p.1 (kill own e5)))
      | none => none) = bnd (loopC C elt tg cond own p.2 e1) fun t e2 => some (.ok t (putBack it.bk p.1 e2))
    unfold loopC
    cases compGo (lcF C elt tg cond own) p.2 e1 with
    | none => rfl
    | some q => rfl
def takeS : Nat → Ss → Ss
  | 0, _ => .nil
  | _, .nil => .nil
  | n + 1, .cons s ss => .cons s (takeS n ss)
def dropS : Nat → Ss → Ss
  | 0, ss => ss
  | _, .nil => .nil
  | n + 1, .cons _ ss => dropS n ss
def S.bodyOf : S → Ss
  | .whl _ b => b
  | .frs _ _ b => b
  | .ifs _ a _ => a
  | .try1 b _ _ => b
  | _ => .nil
def nthS : Nat → Ss → S
  | _, .nil => .pas
  | 0, .cons s _ => s
  | n + 1, .cons _ ss => nthS n ss
theorem evSs_split (C : Ctx) : ∀ (n : Nat) (ss : Ss) (env : Env), evSs C ss env = sq (evSs C (takeS n ss) env) (evSs C (dropS n ss))
  | 0, ss, env => by
    have e : takeS 0 ss = .nil := by cases ss <;> rfl
    have e2 : dropS 0 ss = ss := by cases ss <;> rfl
    rw [e, e2, evSs_nil]; rfl
  | n + 1, .nil, env => by
    have e : takeS (n + 1) .nil = .nil := rfl
    have e2 : dropS (n + 1) .nil = .nil := rfl
    rw [e, e2, evSs_nil, sq_nx, evSs_nil]
  | n + 1, .cons s ss, env => by
    have e : takeS (n + 1) (.cons s ss) = .cons s (takeS n ss) := rfl
    have e2 : dropS (n + 1) (.cons s ss) = dropS n ss := rfl
    rw [e, e2, evSs_cons, evSs_cons]
    cases evS C s env with
    | none => rfl
    | some r =>
      cases r with
      | nx e3 => rw [sq_nx, sq_nx]; exact evSs_split C n ss e3
      | _ => rfl
instance {n : Nat} {i : Int} : Decidable (Bd n i) := inferInstanceAs (Decidable (_ < _))
theorem rg1_of {C : Ctx} {a : E} {env e1 : Env} {t : Tm} {n : Nat} (h1 : evE C a env = some (.ok t e1)) (h2 : raw e1 t = some (.int (n : Int))) (h3 : C.L.rng (n : Int) = true) : evIt C (.rg1 a) env = some (.ok ([], rgD 0 n 1) e1) := by
  rw [evIt_rg1, h1]
  simp only [bnd, h2, h3, cond_true, Int.toNat_natCast]
theorem rg2_of {C : Ctx} {a b : E} {env e1 e2 : Env} {t1 t2 : Tm} {i j : Int} (h1 : evE C a env = some (.ok t1 e1)) (h1' : evE C b e1 = some (.ok t2 e2)) (h2 : raw e2 t1 = some (.int i)) (h2' : raw e2 t2 = some (.int j)) (h3 : C.L.rng i = true) (h4 : C.L.rng j = true) : evIt C (.rg2 a b) env = some (.ok ([], rgD i (j - i).toNat 1) e2) := by
  rw [evIt_rg2, h1]
  simp only [bnd, h1', h2, h2', h3, h4, cond_true, Bool.and_self]
theorem rg3_of {C : Ctx} {a b c : E} {env e1 e2 e3 : Env} {t1 t2 t3 : Tm} {i j k : Int} (h1 : evE C a env = some (.ok t1 e1)) (h1' : evE C b e1 = some (.ok t2 e2)) (h1'' : evE C c e2 = some (.ok t3 e3)) (h2 : raw e3 t1 = some (.int i)) (h2' : raw e3 t2 = some (.int j)) (h2'' : raw e3 t3 = some (.int k)) (h3 : C.L.rng i = true) (h4 : C.L.rng j = true) (h5 : rgSteps.contains k = true) : evIt C (.rg3 a b c) env = some (.ok ([], rgD i (rgN i j k) k) e3) := by
  rw [evIt_rg3, h1]
  simp only [bnd, h1', h1'', h2, h2', h2'', h3, h4, h5, cond_true, Bool.and_self]
end TV
namespace TV
open PySem PySem.Spec PyProof.Rows L2
def c_common_divisor : Ss := (.cons (.asg 0 (.bi .abs (.cons (.bo 0) .nil))) (.cons (.asg 1 (.bi .abs (.cons (.bo 1) .nil))) (.cons (.whl (.cmp .Gt (.bo 1) (.lit (.int 0))) (.cons (.par 0 1 (.fr 1) (.bin .Mod (.bo 0) (.bo 1))) .nil)) (.cons (.kil [1]) (.cons (.ret (.mv 0)) .nil)))))
def f_common_divisor : Fn := ⟨"common_divisor", ["one", "other"], 2, c_common_divisor⟩
def c_fraction : Ss := (.cons (.ifs (.cmp .Eq (.bo 1) (.lit (.int 0))) (.cons (.rse "NoNumber") .nil) .nil) (.cons (.asg 2 (.call "common_divisor" (.cons (.bo 0) (.cons (.bo 1) .nil)))) (.cons (.ifs (.cmp .Lt (.bo 1) (.lit (.int 0))) (.cons (.asg 2 (.neg (.bo 2))) .nil) .nil) (.cons (.ret (.tup (.cons (.bin .FloorDiv (.bo 0) (.bo 2)) (.cons (.bin .FloorDiv (.bo 1) (.bo 2)) .nil)))) .nil))))
def f_fraction : Fn := ⟨"fraction", ["top", "bottom", "many"], 2, c_fraction⟩
def c_plus : Ss := (.cons (.ret (.call "fraction" (.cons (.bin .Add (.bin .Mult (.ix (.bo 0) (.lit (.int 0))) (.ix (.bo 1) (.lit (.int 1)))) (.bin .Mult (.ix (.bo 1) (.lit (.int 0))) (.ix (.bo 0) (.lit (.int 1))))) (.cons (.bin .Mult (.ix (.bo 0) (.lit (.int 1))) (.ix (.bo 1) (.lit (.int 1)))) .nil)))) .nil)
def f_plus : Fn := ⟨"plus", ["one", "other"], 2, c_plus⟩
def c_minus : Ss := (.cons (.ret (.call "fraction" (.cons (.bin .Sub (.bin .Mult (.ix (.bo 0) (.lit (.int 0))) (.ix (.bo 1) (.lit (.int 1)))) (.bin .Mult (.ix (.bo 1) (.lit (.int 0))) (.ix (.bo 0) (.lit (.int 1))))) (.cons (.bin .Mult (.ix (.bo 0) (.lit (.int 1))) (.ix (.bo 1) (.lit (.int 1)))) .nil)))) .nil)
def f_minus : Fn := ⟨"minus", ["one", "other"], 2, c_minus⟩
def c_product : Ss := (.cons (.ret (.call "fraction" (.cons (.bin .Mult (.ix (.bo 0) (.lit (.int 0))) (.ix (.bo 1) (.lit (.int 0)))) (.cons (.bin .Mult (.ix (.bo 0) (.lit (.int 1))) (.ix (.bo 1) (.lit (.int 1)))) .nil)))) .nil)
def f_product : Fn := ⟨"product", ["one", "other"], 2, c_product⟩
def c_quotient : Ss := (.cons (.ret (.call "fraction" (.cons (.bin .Mult (.ix (.bo 0) (.lit (.int 0))) (.ix (.bo 1) (.lit (.int 1)))) (.cons (.bin .Mult (.ix (.bo 0) (.lit (.int 1))) (.ix (.bo 1) (.lit (.int 0)))) .nil)))) .nil)
def f_quotient : Fn := ⟨"quotient", ["one", "other"], 2, c_quotient⟩
def c_is_less : Ss := (.cons (.ret (.cmp .Lt (.bin .Mult (.ix (.bo 0) (.lit (.int 0))) (.ix (.bo 1) (.lit (.int 1)))) (.bin .Mult (.ix (.bo 1) (.lit (.int 0))) (.ix (.bo 0) (.lit (.int 1)))))) .nil)
def f_is_less : Fn := ⟨"is_less", ["one", "other"], 2, c_is_less⟩
def c_size_of : Ss := (.cons (.ret (.tup (.cons (.bi .abs (.cons (.ix (.bo 0) (.lit (.int 0))) .nil)) (.cons (.ix (.bo 0) (.lit (.int 1))) .nil)))) .nil)
def f_size_of : Fn := ⟨"size_of", ["one"], 1, c_size_of⟩
def c_total_of : Ss := (.cons (.asg 1 (.tup (.cons (.lit (.int 0)) (.cons (.lit (.int 1)) .nil)))) (.cons (.frs (.one 2) (.list (.fr 0)) (.cons (.asg 1 (.call "plus" (.cons (.bo 1) (.cons (.bo 2) .nil)))) (.cons (.kil [2]) .nil))) (.cons (.kil [2]) (.cons (.ret (.mv 1)) .nil))))
def f_total_of : Fn := ⟨"total_of", ["some", "whole", "one"], 1, c_total_of⟩
def c_greatest_of : Ss := (.cons (.ifs (.cmp .Eq (.bi .len (.cons (.bo 0) .nil)) (.lit (.int 0))) (.cons (.rse "NoNumber") .nil) .nil) (.cons (.asg 1 (.ix (.bo 0) (.lit (.int 0)))) (.cons (.frs (.one 2) (.list (.fr 0)) (.cons (.ifs (.call "is_less" (.cons (.bo 1) (.cons (.bo 2) .nil))) (.cons (.asg 1 (.mv 2)) .nil) .nil) (.cons (.kil [2]) .nil))) (.cons (.kil [2]) (.cons (.ret (.mv 1)) .nil)))))
def f_greatest_of : Fn := ⟨"greatest_of", ["some", "best", "one"], 1, c_greatest_of⟩
def c_least_of : Ss := (.cons (.ifs (.cmp .Eq (.bi .len (.cons (.bo 0) .nil)) (.lit (.int 0))) (.cons (.rse "NoNumber") .nil) .nil) (.cons (.asg 1 (.ix (.bo 0) (.lit (.int 0)))) (.cons (.frs (.one 2) (.list (.fr 0)) (.cons (.ifs (.call "is_less" (.cons (.bo 2) (.cons (.bo 1) .nil))) (.cons (.asg 1 (.mv 2)) .nil) .nil) (.cons (.kil [2]) .nil))) (.cons (.kil [2]) (.cons (.ret (.mv 1)) .nil)))))
def f_least_of : Fn := ⟨"least_of", ["some", "best", "one"], 1, c_least_of⟩
def c_place_for : Ss := (.cons (.asg 2 (.lit (.int 0))) (.cons (.whl (.and (.cmp .Lt (.bo 2) (.bi .len (.cons (.bo 0) .nil))) (.call "is_less" (.cons (.ix (.ix (.bo 0) (.bo 2)) (.lit (.int 0))) (.cons (.bo 1) .nil)))) (.cons (.aug 2 .Add (.lit (.int 1))) .nil)) (.cons (.ret (.mv 2)) .nil)))
def f_place_for : Fn := ⟨"place_for", ["found", "place", "at"], 2, c_place_for⟩
def c_marks_of : Ss := (.cons (.ifs (.or (.cmp .Lt (.bi .len (.cons (.bo 0) .nil)) (.lit (.int 1))) (.cmp .Gt (.bi .len (.cons (.bo 0) .nil)) (.glb "MOST_MARKS"))) (.cons (.rse "NoMarks") .nil) .nil) (.cons (.asg 1 (.lst .nil)) (.cons (.frs (.one 2) (.list (.fr 0)) (.cons (.asg 3 (.call "place_for" (.cons (.bo 1) (.cons (.ix (.bo 2) (.lit (.int 0))) .nil)))) (.cons (.ifs (.and (.cmp .Lt (.bo 3) (.bi .len (.cons (.bo 1) .nil))) (.cmp .Eq (.ix (.ix (.bo 1) (.bo 3)) (.lit (.int 0))) (.ix (.bo 2) (.lit (.int 0))))) (.cons (.rse "NoMarks") .nil) .nil) (.cons (.mut0 .insert 1 (.cons (.bo 3) (.cons (.fr 2) .nil))) (.cons (.kil [2, 3]) .nil))))) (.cons (.kil [2, 3]) (.cons (.ret (.mv 1)) .nil)))))
def f_marks_of : Fn := ⟨"marks_of", ["some", "found", "mark", "at"], 1, c_marks_of⟩
def c_misses_of : Ss := (.cons (.ret (.lc (.call "minus" (.cons (.ix (.bo 2) (.lit (.int 1))) (.cons (.bo 3) .nil))) (.many [2, 3]) (.zip (.cons (.fr 0) (.cons (.fr 1) .nil))) .no [2, 3])) .nil)
def f_misses_of : Fn := ⟨"misses_of", ["marks", "row", "mark", "height"], 2, c_misses_of⟩
def c_need_kind : Ss := (.cons (.ifs (.or (.not (.isi (.bo 0) .str)) (.cmp .NotIn (.bo 0) (.tup (.cons (.lit (.str "far")) (.cons (.lit (.str "sum")) (.cons (.lit (.str "square")) .nil)))))) (.cons (.rse "NoKind") .nil) .nil) .nil)
def f_need_kind : Fn := ⟨"need_kind", ["kind"], 1, c_need_kind⟩
def c_weighed : Ss := (.cons (.ret (.lc (.call "product" (.cons (.tup (.cons (.ix (.bo 2) (.lit (.int 2))) (.cons (.lit (.int 1)) .nil))) (.cons (.bo 3) .nil))) (.many [2, 3]) (.zip (.cons (.fr 0) (.cons (.fr 1) .nil))) .no [2, 3])) .nil)
def f_weighed : Fn := ⟨"weighed", ["marks", "misses", "mark", "miss"], 2, c_weighed⟩
def c_measured : Ss := (.cons (.ex (.call "need_kind" (.cons (.bo 0) .nil))) (.cons (.asg 3 (.call "misses_of" (.cons (.fr 1) (.cons (.fr 2) .nil)))) (.cons (.asg 4 (.lc (.call "size_of" (.cons (.bo 5) .nil)) (.one 5) (.list (.fr 3)) .no [5])) (.cons (.ifs (.cmp .Eq (.bo 0) (.lit (.str "far"))) (.cons (.ret (.call "greatest_of" (.cons (.bo 4) .nil))) .nil) .nil) (.cons (.ifs (.cmp .Eq (.bo 0) (.lit (.str "sum"))) (.cons (.ret (.call "total_of" (.cons (.call "weighed" (.cons (.fr 1) (.cons (.fr 4) .nil))) .nil))) .nil) .nil) (.cons (.ret (.call "total_of" (.cons (.lc (.call "product" (.cons (.bo 6) (.cons (.bo 5) .nil))) (.many [6, 5]) (.zip (.cons (.call "weighed" (.cons (.fr 1) (.cons (.fr 3) .nil))) (.cons (.fr 3) .nil))) .no [6, 5]) .nil))) .nil))))))
def f_measured : Fn := ⟨"measured", ["kind", "marks", "row", "misses", "sizes", "miss", "one"], 3, c_measured⟩
def c_fair_by_sum : Ss := (.cons (.ifs (.cmp .Gt (.ix (.bo 1) (.lit (.int 0))) (.lit (.int 0))) (.cons (.ret (.cmp .Eq (.bo 0) (.tup (.cons (.fr 2) (.cons (.lit (.int 1)) .nil))))) .nil) .nil) (.cons (.ifs (.cmp .Lt (.ix (.bo 1) (.lit (.int 0))) (.lit (.int 0))) (.cons (.ret (.cmp .Eq (.bo 0) (.tup (.cons (.bin .Sub (.lit (.int 0)) (.bo 2)) (.cons (.lit (.int 1)) .nil))))) .nil) .nil) (.cons (.ret (.not (.call "is_less" (.cons (.tup (.cons (.fr 2) (.cons (.lit (.int 1)) .nil))) (.cons (.call "size_of" (.cons (.bo 0) .nil)) .nil))))) .nil)))
def f_fair_by_sum : Fn := ⟨"fair_by_sum", ["pull", "miss", "weight"], 3, c_fair_by_sum⟩
def c_fair_by_far : Ss := (.cons (.asg 2 (.lc (.call "size_of" (.cons (.bo 5) .nil)) (.one 5) (.list (.fr 0)) .no [5])) (.cons (.asg 3 (.call "greatest_of" (.cons (.bo 2) .nil))) (.cons (.frs (.many [5, 6]) (.zip (.cons (.fr 0) (.cons (.fr 1) .nil))) (.cons (.ifs (.and (.cmp .NotEq (.ix (.bo 6) (.lit (.int 0))) (.lit (.int 0))) (.or (.cmp .NotEq (.call "size_of" (.cons (.bo 5) .nil)) (.bo 3)) (.cmp .LtE (.bin .Mult (.ix (.bo 6) (.lit (.int 0))) (.ix (.bo 5) (.lit (.int 0)))) (.lit (.int 0))))) (.cons (.ret (.lit (.bl false))) .nil) .nil) (.cons (.kil [5, 6]) .nil))) (.cons (.kil [5, 6]) (.cons (.asg 4 (.call "total_of" (.cons (.lc (.call "size_of" (.cons (.bo 6) .nil)) (.one 6) (.list (.fr 1)) .no [6]) .nil))) (.cons (.ret (.or (.cmp .Eq (.bo 4) (.tup (.cons (.lit (.int 1)) (.cons (.lit (.int 1)) .nil)))) (.and (.cmp .Eq (.bo 4) (.tup (.cons (.lit (.int 0)) (.cons (.lit (.int 1)) .nil)))) (.cmp .Eq (.bo 3) (.tup (.cons (.lit (.int 0)) (.cons (.lit (.int 1)) .nil))))))) .nil))))))
def f_fair_by_far : Fn := ⟨"fair_by_far", ["misses", "pulls", "sizes", "most", "come", "miss", "pull"], 2, c_fair_by_far⟩
def c_is_fair : Ss := (.cons (.ex (.call "need_kind" (.cons (.bo 0) .nil))) (.cons (.asg 4 (.call "misses_of" (.cons (.fr 1) (.cons (.fr 2) .nil)))) (.cons (.ifs (.cmp .Eq (.bo 0) (.lit (.str "square"))) (.cons (.ret (.cmp .Eq (.bo 3) (.call "weighed" (.cons (.fr 1) (.cons (.fr 4) .nil))))) .nil) .nil) (.cons (.ifs (.cmp .Eq (.bo 0) (.lit (.str "far"))) (.cons (.ret (.call "fair_by_far" (.cons (.bo 4) (.cons (.bo 3) .nil)))) .nil) .nil) (.cons (.frs (.many [5, 6, 7]) (.zip (.cons (.fr 1) (.cons (.fr 4) (.cons (.fr 3) .nil)))) (.cons (.ifs (.not (.call "fair_by_sum" (.cons (.bo 7) (.cons (.bo 6) (.cons (.ix (.bo 5) (.lit (.int 2))) .nil))))) (.cons (.ret (.lit (.bl false))) .nil) .nil) (.cons (.kil [5, 6, 7]) .nil))) (.cons (.kil [5, 6, 7]) (.cons (.ret (.lit (.bl true))) .nil)))))))
def f_is_fair : Fn := ⟨"is_fair", ["kind", "marks", "row", "pulls", "misses", "mark", "miss", "pull"], 4, c_is_fair⟩
def c_height_at : Ss := (.cons (.asg 2 (.tup (.cons (.lit (.int 0)) (.cons (.lit (.int 1)) .nil)))) (.cons (.frs (.one 3) (.rev (.fr 0)) (.cons (.asg 2 (.call "plus" (.cons (.call "product" (.cons (.bo 2) (.cons (.bo 1) .nil))) (.cons (.bo 3) .nil)))) (.cons (.kil [3]) .nil))) (.cons (.kil [3]) (.cons (.ret (.mv 2)) .nil))))
def f_height_at : Fn := ⟨"height_at", ["numbers", "x", "found", "number"], 2, c_height_at⟩
def c_row_of : Ss := (.cons (.ret (.lc (.call "height_at" (.cons (.bo 0) (.cons (.ix (.bo 2) (.lit (.int 0))) .nil))) (.one 2) (.list (.fr 1)) .no [2])) .nil)
def f_row_of : Fn := ⟨"row_of", ["numbers", "marks", "mark"], 2, c_row_of⟩
def c_slopes_of : Ss := (.cons (.asg 1 (.lc (.ix (.bo 4) (.lit (.int 1))) (.one 4) (.list (.fr 0)) .no [4])) (.cons (.asg 2 (.lst (.cons (.ix (.bo 1) (.lit (.int 0))) .nil))) (.cons (.frs (.one 3) (.rg2 (.lit (.int 1)) (.bi .len (.cons (.bo 0) .nil))) (.cons (.asg 1 (.lc (.call "quotient" (.cons (.call "minus" (.cons (.ix (.bo 1) (.bin .Add (.bo 5) (.lit (.int 1)))) (.cons (.ix (.bo 1) (.bo 5)) .nil))) (.cons (.call "minus" (.cons (.ix (.ix (.bo 0) (.bin .Add (.bo 5) (.bo 3))) (.lit (.int 0))) (.cons (.ix (.ix (.bo 0) (.bo 5)) (.lit (.int 0))) .nil))) .nil))) (.one 5) (.rg1 (.bin .Sub (.bi .len (.cons (.bo 1) .nil)) (.lit (.int 1)))) .no [5])) (.cons (.mut0 .append 2 (.cons (.ix (.bo 1) (.lit (.int 0))) .nil)) (.cons (.kil [3, 5]) .nil)))) (.cons (.kil [1, 3, 5]) (.cons (.ret (.mv 2)) .nil)))))
def f_slopes_of : Fn := ⟨"slopes_of", ["marks", "row", "found", "far", "mark", "k"], 1, c_slopes_of⟩
def c_put_on : Ss := (.cons (.asg 3 (.bin .Add (.lst (.cons (.fr 2) .nil)) (.bi .list (.cons (.bo 0) .nil)))) (.cons (.frs (.one 4) (.rg1 (.bi .len (.cons (.bo 0) .nil))) (.cons (.set1 3 (.bo 4) (.call "minus" (.cons (.ix (.bo 3) (.bo 4)) (.cons (.call "product" (.cons (.bo 1) (.cons (.ix (.bo 0) (.bo 4)) .nil))) .nil)))) (.cons (.kil [4]) .nil))) (.cons (.kil [4]) (.cons (.ret (.mv 3)) .nil))))
def f_put_on : Fn := ⟨"put_on", ["numbers", "place", "number", "found", "k"], 3, c_put_on⟩
def c_bent_through : Ss := (.cons (.ifs (.cmp .Gt (.bi .len (.cons (.bo 0) .nil)) (.glb "MOST_NUMBERS")) (.cons (.rse "NoBend") .nil) .nil) (.cons (.asg 1 (.call "slopes_of" (.cons (.fr 0) .nil))) (.cons (.asg 2 (.lst (.cons (.pop 1) .nil))) (.cons (.whl (.cmp .NotEq (.bo 1) (.lst .nil)) (.cons (.asg 2 (.call "put_on" (.cons (.fr 2) (.cons (.ix (.ix (.bo 0) (.bin .Sub (.bi .len (.cons (.bo 1) .nil)) (.lit (.int 1)))) (.lit (.int 0))) (.cons (.pop 1) .nil))))) .nil)) (.cons (.ret (.mv 2)) .nil)))))
def f_bent_through : Fn := ⟨"bent_through", ["marks", "slopes", "found"], 1, c_bent_through⟩
def c_row_without : Ss := (.cons (.asg 3 (.call "quotient" (.cons (.ix (.bo 0) (.bo 2)) (.cons (.ix (.bo 1) (.bo 2)) .nil)))) (.cons (.ret (.lc (.call "minus" (.cons (.ix (.bo 0) (.bo 4)) (.cons (.call "product" (.cons (.bo 3) (.cons (.ix (.bo 1) (.bo 4)) .nil))) .nil))) (.one 4) (.rg1 (.bi .len (.cons (.bo 0) .nil))) .no [4])) .nil))
def f_row_without : Fn := ⟨"row_without", ["row", "other", "at", "times", "k"], 3, c_row_without⟩
def c_row_with : Ss := (.cons (.frs (.one 2) (.rg2 (.bo 1) (.bi .len (.cons (.bo 0) .nil))) (.cons (.ifs (.cmp .NotEq (.ix (.ix (.bo 0) (.bo 2)) (.bo 1)) (.tup (.cons (.lit (.int 0)) (.cons (.lit (.int 1)) .nil)))) (.cons (.ret (.mv 2)) .nil) .nil) (.cons (.kil [2]) .nil))) (.cons (.kil [2]) (.cons (.rse "NoAnswer") .nil)))
def f_row_with : Fn := ⟨"row_with", ["rows", "at", "k"], 2, c_row_with⟩
def c_solved : Ss := (.cons (.asg 2 (.lc (.shr (.bin .Add (.bi .list (.cons (.ix (.bo 0) (.bo 4)) .nil)) (.lst (.cons (.ix (.bo 1) (.bo 4)) .nil)))) (.one 4) (.rg1 (.bi .len (.cons (.bo 0) .nil))) .no [4])) (.cons (.frs (.one 3) (.rg1 (.bi .len (.cons (.bo 2) .nil))) (.cons (.asg 4 (.call "row_with" (.cons (.bo 2) (.cons (.bo 3) .nil)))) (.cons (.swp 2 (.bo 3) (.bo 4) (.ix (.bo 2) (.bo 4)) (.ix (.bo 2) (.bo 3))) (.cons (.frs (.one 5) (.rg1 (.bi .len (.cons (.bo 2) .nil))) (.cons (.ifs (.cmp .NotEq (.bo 5) (.bo 3)) (.cons (.set1 2 (.bo 5) (.shr (.call "row_without" (.cons (.ix (.bo 2) (.bo 5)) (.cons (.ix (.bo 2) (.bo 3)) (.cons (.fr 3) .nil)))))) .nil) .nil) (.cons (.kil [5]) .nil))) (.cons (.kil [5]) (.cons (.kil [3, 4, 5]) .nil)))))) (.cons (.kil [3, 4, 5]) (.cons (.ret (.lc (.call "quotient" (.cons (.ix (.ix (.bo 2) (.bo 3)) (.neg (.lit (.int 1)))) (.cons (.ix (.ix (.bo 2) (.bo 3)) (.bo 3)) .nil))) (.one 3) (.rg1 (.bi .len (.cons (.bo 2) .nil))) .no [3])) .nil))))
def f_solved : Fn := ⟨"solved", ["table", "right", "rows", "at", "k", "other"], 2, c_solved⟩
def c_is_even : Ss := (.cons (.asg 3 (.bi .list (.cons (.bo 1) .nil))) (.cons (.frs (.one 4) (.rg1 (.bin .Add (.bo 2) (.lit (.int 1)))) (.cons (.ifs (.cmp .NotEq (.call "total_of" (.cons (.bo 3) .nil)) (.tup (.cons (.lit (.int 0)) (.cons (.lit (.int 1)) .nil)))) (.cons (.ret (.lit (.bl false))) .nil) .nil) (.cons (.asg 3 (.lc (.call "product" (.cons (.ix (.bo 3) (.bo 5)) (.cons (.ix (.ix (.bo 0) (.bo 5)) (.lit (.int 0))) .nil))) (.one 5) (.rg1 (.bi .len (.cons (.bo 0) .nil))) .no [5])) (.cons (.kil [4, 5]) .nil)))) (.cons (.kil [3, 4, 5]) (.cons (.ret (.lit (.bl true))) .nil))))
def f_is_even : Fn := ⟨"is_even", ["marks", "pulls", "bend", "some", "k", "j"], 3, c_is_even⟩
def c_shares_of : Ss := (.cons (.asg 1 (.lst .nil)) (.cons (.frs (.one 2) (.rg1 (.bi .len (.cons (.bo 0) .nil))) (.cons (.asg 3 (.tup (.cons (.lit (.int 1)) (.cons (.lit (.int 1)) .nil)))) (.cons (.frs (.one 4) (.rg1 (.bi .len (.cons (.bo 0) .nil))) (.cons (.ifs (.cmp .NotEq (.bo 4) (.bo 2)) (.cons (.asg 3 (.call "product" (.cons (.bo 3) (.cons (.call "minus" (.cons (.ix (.bo 0) (.bo 2)) (.cons (.ix (.bo 0) (.bo 4)) .nil))) .nil)))) .nil) .nil) (.cons (.kil [4]) .nil))) (.cons (.kil [4]) (.cons (.mut0 .append 1 (.cons (.call "quotient" (.cons (.tup (.cons (.lit (.int 1)) (.cons (.lit (.int 1)) .nil))) (.cons (.bo 3) .nil))) .nil)) (.cons (.kil [2, 3, 4]) .nil)))))) (.cons (.kil [2, 3, 4]) (.cons (.ret (.mv 1)) .nil))))
def f_shares_of : Fn := ⟨"shares_of", ["places", "found", "k", "share", "j"], 1, c_shares_of⟩
def c_level_out : Ss := (.cons (.asg 1 (.call "shares_of" (.cons (.lc (.ix (.bo 8) (.lit (.int 0))) (.one 8) (.list (.fr 0)) .no [8]) .nil))) (.cons (.asg 2 (.call "total_of" (.cons (.lc (.call "size_of" (.cons (.bo 7) .nil)) (.one 7) (.list (.fr 1)) .no [7]) .nil))) (.cons (.asg 1 (.lc (.call "quotient" (.cons (.bo 7) (.cons (.bo 2) .nil))) (.one 7) (.list (.fr 1)) .no [7])) (.cons (.asg 3 (.call "total_of" (.cons (.lc (.call "product" (.cons (.ix (.bo 1) (.bo 5)) (.cons (.ix (.ix (.bo 0) (.bo 5)) (.lit (.int 1))) .nil))) (.one 5) (.rg1 (.bi .len (.cons (.bo 0) .nil))) .no [5]) .nil))) (.cons (.asg 4 (.lst .nil)) (.cons (.frs (.one 5) (.rg1 (.bin .Sub (.bi .len (.cons (.bo 0) .nil)) (.lit (.int 1)))) (.cons (.asg 6 (.call "minus" (.cons (.ix (.ix (.bo 0) (.bo 5)) (.lit (.int 1))) (.cons (.bo 3) .nil)))) (.cons (.ifs (.call "is_less" (.cons (.ix (.bo 1) (.bo 5)) (.cons (.glb "NOUGHT") .nil))) (.cons (.asg 6 (.call "plus" (.cons (.ix (.ix (.bo 0) (.bo 5)) (.lit (.int 1))) (.cons (.bo 3) .nil)))) .nil) .nil) (.cons (.mut0 .append 4 (.cons (.tup (.cons (.ix (.ix (.bo 0) (.bo 5)) (.lit (.int 0))) (.cons (.fr 6) (.cons (.lit (.int 1)) .nil)))) .nil)) (.cons (.kil [5, 6]) .nil))))) (.cons (.kil [5, 6]) (.cons (.ret (.tup (.cons (.call "bent_through" (.cons (.fr 4) .nil)) (.cons (.mv 3) (.cons (.mv 1) .nil))))) .nil))))))))
def f_level_out : Fn := ⟨"level_out", ["marks", "shares", "whole", "miss", "through", "k", "height", "share", "mark"], 1, c_level_out⟩
def c_worst_of : Ss := (.cons (.asg 1 (.lit (.int 0))) (.cons (.frs (.one 2) (.rg2 (.lit (.int 1)) (.bi .len (.cons (.bo 0) .nil))) (.cons (.ifs (.call "is_less" (.cons (.call "size_of" (.cons (.ix (.bo 0) (.bo 1)) .nil)) (.cons (.call "size_of" (.cons (.ix (.bo 0) (.bo 2)) .nil)) .nil))) (.cons (.asg 1 (.mv 2)) .nil) .nil) (.cons (.kil [2]) .nil))) (.cons (.kil [2]) (.cons (.ret (.mv 1)) .nil))))
def f_worst_of : Fn := ⟨"worst_of", ["misses", "found", "k"], 1, c_worst_of⟩
def c_taken_in : Ss := (.cons (.ifs (.and (.cmp .Lt (.bo 2) (.ix (.bo 0) (.lit (.int 0)))) (.cmp .NotEq (.ix (.bo 1) (.lit (.int 0))) (.bo 3))) (.cons (.ret (.bin .Add (.lst (.cons (.fr 2) .nil)) (.sl (.bo 0) .no (.so (.neg (.lit (.int 1))))))) .nil) .nil) (.cons (.ifs (.and (.cmp .Gt (.bo 2) (.ix (.bo 0) (.neg (.lit (.int 1))))) (.cmp .NotEq (.ix (.bo 1) (.neg (.lit (.int 1)))) (.bo 3))) (.cons (.ret (.bin .Add (.sl (.bo 0) (.so (.lit (.int 1))) .no) (.lst (.cons (.fr 2) .nil)))) .nil) .nil) (.cons (.asg 4 (.bi .list (.cons (.bo 0) .nil))) (.cons (.asg 5 (.lit (.int 0))) (.cons (.frs (.one 6) (.rg1 (.bi .len (.cons (.bo 0) .nil))) (.cons (.ifs (.and (.cmp .Eq (.ix (.bo 1) (.bo 6)) (.bo 3)) (.or (.cmp .Lt (.ix (.bo 0) (.bo 6)) (.bo 2)) (.or (.cmp .Eq (.bo 6) (.lit (.int 0))) (.cmp .Lt (.ix (.bo 0) (.bin .Sub (.bo 6) (.lit (.int 1)))) (.bo 2))))) (.cons (.asg 5 (.mv 6)) .nil) .nil) (.cons (.kil [6]) .nil))) (.cons (.kil [6]) (.cons (.set1 4 (.bo 5) (.fr 2)) (.cons (.ret (.mv 4)) .nil))))))))
def f_taken_in : Fn := ⟨"taken_in", ["chosen", "signs", "worst", "above", "found", "near", "k"], 4, c_taken_in⟩
def c_by_far : Ss := (.cons (.asg 2 (.lrg (.bin .Add (.bo 1) (.lit (.int 2))))) (.cons (.whl (.lit (.bl true)) (.cons (.unp [9, 10, 11] (.call "level_out" (.cons (.lc (.ix (.bo 0) (.bo 4)) (.one 4) (.list (.fr 2)) .no [4]) .nil))) (.cons (.asg 5 (.call "misses_of" (.cons (.fr 0) (.cons (.call "row_of" (.cons (.fr 9) (.cons (.fr 0) .nil))) .nil)))) (.cons (.asg 6 (.call "worst_of" (.cons (.bo 5) .nil))) (.cons (.asg 7 (.call "is_less" (.cons (.bo 10) (.cons (.glb "NOUGHT") .nil)))) (.cons (.ifs (.not (.call "is_less" (.cons (.call "size_of" (.cons (.bo 10) .nil)) (.cons (.call "size_of" (.cons (.ix (.bo 5) (.bo 6)) .nil)) .nil)))) (.cons .brk .nil) .nil) (.cons (.asg 8 (.lc (.cmp .Eq (.call "is_less" (.cons (.bo 13) (.cons (.glb "NOUGHT") .nil))) (.bo 7)) (.one 13) (.list (.fr 11)) .no [13])) (.cons (.asg 2 (.call "taken_in" (.cons (.fr 2) (.cons (.fr 8) (.cons (.fr 6) (.cons (.not (.call "is_less" (.cons (.ix (.bo 5) (.bo 6)) (.cons (.glb "NOUGHT") .nil)))) .nil)))))) (.cons (.kil [4, 5, 6, 8, 13]) .nil))))))))) (.cons (.kil [4, 5, 6, 8, 13]) (.cons (.asg 3 (.lc (.glb "NOUGHT") (.one 12) (.list (.fr 0)) .no [12])) (.cons (.frs (.one 4) (.rg1 (.bi .len (.cons (.bo 2) .nil))) (.cons (.ifs (.bo 7) (.cons (.set1 3 (.ix (.bo 2) (.bo 4)) (.call "minus" (.cons (.glb "NOUGHT") (.cons (.ix (.bo 11) (.bo 4)) .nil)))) .nil) (.cons (.ifs (.cmp .NotEq (.bo 10) (.glb "NOUGHT")) (.cons (.set1 3 (.ix (.bo 2) (.bo 4)) (.ix (.bo 11) (.bo 4))) .nil) .nil) .nil)) (.cons (.kil [4]) .nil))) (.cons (.kil [4]) (.cons (.ret (.tup (.cons (.fr 9) (.cons (.mv 3) .nil)))) .nil)))))))
def f_by_far : Fn := ⟨"by_far", ["marks", "bend", "chosen", "pulls", "k", "misses", "worst", "falls", "signs", "numbers", "miss", "shares", "mark", "share"], 2, c_by_far⟩
def c_bend_least : Ss := (.cons (.ifs (.and (.cmp .NotEq (.bo 0) (.lit (.str "far"))) (.cmp .NotEq (.bo 0) (.lit (.str "square")))) (.cons (.rse "NoKind") .nil) .nil) (.cons (.ifs (.or (.not (.isi (.bo 2) .int)) (.or (.isi (.bo 2) .bool) (.or (.cmp .Lt (.bo 2) (.lit (.int 0))) (.cmp .Gt (.bo 2) (.lit (.int 3)))))) (.cons (.rse "NoBend") .nil) .nil) (.cons (.ifs (.cmp .LtE (.bi .len (.cons (.bo 1) .nil)) (.bin .Add (.bo 2) (.lit (.int 1)))) (.cons (.asg 3 (.lc (.glb "NOUGHT") (.one 4) (.rg1 (.bin .Sub (.bin .Add (.bo 2) (.lit (.int 1))) (.bi .len (.cons (.bo 1) .nil)))) .no [4])) (.cons (.ret (.tup (.cons (.shr (.bin .Add (.call "bent_through" (.cons (.fr 1) .nil)) (.bo 3))) (.cons (.lc (.glb "NOUGHT") (.one 5) (.list (.fr 1)) .no [5]) .nil)))) .nil)) .nil) (.cons (.ifs (.cmp .Eq (.bo 0) (.lit (.str "far"))) (.cons (.ret (.call "by_far" (.cons (.fr 1) (.cons (.fr 2) .nil)))) .nil) .nil) (.cons (.ret (.call "by_squares" (.cons (.fr 1) (.cons (.fr 2) .nil)))) .nil)))))
def f_bend_least : Fn := ⟨"bend_least", ["kind", "marks", "bend", "more", "k", "mark"], 3, c_bend_least⟩
def c_bend_shown : Ss := (.cons (.ifs (.not (.call "is_fair" (.cons (.bo 0) (.cons (.bo 1) (.cons (.call "row_of" (.cons (.fr 2) (.cons (.fr 1) .nil))) (.cons (.bo 3) .nil)))))) (.cons (.ret (.lit (.bl false))) .nil) .nil) (.cons (.ret (.call "is_even" (.cons (.bo 1) (.cons (.bo 3) (.cons (.bin .Sub (.bi .len (.cons (.bo 2) .nil)) (.lit (.int 1))) .nil))))) .nil))
def f_bend_shown : Fn := ⟨"bend_shown", ["kind", "marks", "numbers", "pulls"], 4, c_bend_shown⟩
def c_middle_height : Ss := (.cons (.asg 1 (.call "total_of" (.cons (.lc (.call "fraction" (.cons (.ix (.bo 5) (.lit (.int 2))) (.cons (.lit (.int 2)) .nil))) (.one 5) (.list (.fr 0)) .no [5]) .nil))) (.cons (.frs (.one 2) (.list (.lc (.ix (.bo 5) (.lit (.int 1))) (.one 5) (.list (.fr 0)) .no [5])) (.cons (.asg 3 (.bi .sum (.cons (.lc (.ix (.bo 5) (.lit (.int 2))) (.one 5) (.list (.fr 0)) (.so (.not (.call "is_less" (.cons (.bo 2) (.cons (.ix (.bo 5) (.lit (.int 1))) .nil))))) [5]) .nil))) (.cons (.asg 4 (.bi .sum (.cons (.lc (.ix (.bo 5) (.lit (.int 2))) (.one 5) (.list (.fr 0)) (.so (.call "is_less" (.cons (.ix (.bo 5) (.lit (.int 1))) (.cons (.bo 2) .nil)))) [5]) .nil))) (.cons (.ifs (.and (.not (.call "is_less" (.cons (.tup (.cons (.fr 3) (.cons (.lit (.int 1)) .nil))) (.cons (.bo 1) .nil)))) (.call "is_less" (.cons (.tup (.cons (.fr 4) (.cons (.lit (.int 1)) .nil))) (.cons (.bo 1) .nil)))) (.cons (.ret (.mv 2)) .nil) .nil) (.cons (.kil [2, 3, 4, 5]) .nil))))) (.cons (.kil [2, 3, 4, 5]) (.cons (.ret (.ix (.ix (.bo 0) (.lit (.int 0))) (.lit (.int 1)))) .nil))))
def f_middle_height : Fn := ⟨"middle_height", ["marks", "half", "height", "upto", "below", "mark"], 1, c_middle_height⟩
def c_filled_pulls : Ss := (.cons (.asg 2 (.bin .Add (.bo 1) (.bi .sum (.cons (.bo 0) .nil)))) (.cons (.asg 3 (.lst .nil)) (.cons (.frs (.one 4) (.list (.fr 0)) (.cons (.asg 5 (.bi .min (.cons (.bin .Mult (.lit (.int 2)) (.bo 4)) (.cons (.bo 2) .nil)))) (.cons (.mut0 .append 3 (.cons (.tup (.cons (.bin .Sub (.bo 5) (.bo 4)) (.cons (.lit (.int 1)) .nil))) .nil)) (.cons (.aug 2 .Sub (.bo 5)) (.cons (.kil [4, 5]) .nil))))) (.cons (.kil [2, 4, 5]) (.cons (.ret (.mv 3)) .nil)))))
def f_filled_pulls : Fn := ⟨"filled_pulls", ["weights", "wanted", "left", "found", "weight", "more"], 2, c_filled_pulls⟩
def c_outer_pulls : Ss := (.cons (.asg 2 (.lst .nil)) (.cons (.frs (.many [3, 4]) (.zip (.cons (.fr 0) (.cons (.fr 1) .nil))) (.cons (.ifs (.cmp .Eq (.ix (.bo 4) (.lit (.int 0))) (.lit (.int 0))) (.cons (.mut0 .append 2 (.cons (.lit .non) .nil)) .nil) (.cons (.ifs (.cmp .Gt (.ix (.bo 4) (.lit (.int 0))) (.lit (.int 0))) (.cons (.mut0 .append 2 (.cons (.tup (.cons (.ix (.bo 3) (.lit (.int 2))) (.cons (.lit (.int 1)) .nil))) .nil)) .nil) (.cons (.mut0 .append 2 (.cons (.tup (.cons (.neg (.ix (.bo 3) (.lit (.int 2)))) (.cons (.lit (.int 1)) .nil))) .nil)) .nil)) .nil)) (.cons (.kil [3, 4]) .nil))) (.cons (.kil [3, 4]) (.cons (.ret (.mv 2)) .nil))))
def f_outer_pulls : Fn := ⟨"outer_pulls", ["marks", "misses", "found", "mark", "miss"], 2, c_outer_pulls⟩
def c_put_in : Ss := (.cons (.asg 2 (.lst .nil)) (.cons (.asg 3 (.lit (.int 0))) (.cons (.frs (.one 4) (.list (.fr 0)) (.cons (.ifs (.cmp .Is (.bo 4) (.lit .non)) (.cons (.mut0 .append 2 (.cons (.ix (.bo 1) (.bo 3)) .nil)) (.cons (.aug 3 .Add (.lit (.int 1))) .nil)) (.cons (.mut0 .append 2 (.cons (.fr 4) .nil)) .nil)) (.cons (.kil [4]) .nil))) (.cons (.kil [3, 4]) (.cons (.ret (.mv 2)) .nil)))))
def f_put_in : Fn := ⟨"put_in", ["pulls", "inner", "found", "at", "pull"], 2, c_put_in⟩
def c_level_sum : Ss := (.cons (.asg 1 (.lst (.cons (.call "middle_height" (.cons (.bo 0) .nil)) .nil))) (.cons (.asg 2 (.call "outer_pulls" (.cons (.fr 0) (.cons (.call "misses_of" (.cons (.fr 0) (.cons (.call "row_of" (.cons (.fr 1) (.cons (.fr 0) .nil))) .nil))) .nil)))) (.cons (.asg 3 (.lc (.ix (.bo 5) (.lit (.int 2))) (.many [5, 6]) (.zip (.cons (.fr 0) (.cons (.fr 2) .nil))) (.so (.cmp .Is (.bo 6) (.lit .non))) [5, 6])) (.cons (.asg 4 (.neg (.bi .sum (.cons (.lc (.ix (.bo 6) (.lit (.int 0))) (.one 6) (.list (.fr 2)) (.so (.cmp .IsNot (.bo 6) (.lit .non))) [6]) .nil)))) (.cons (.ret (.tup (.cons (.mv 1) (.cons (.call "put_in" (.cons (.fr 2) (.cons (.call "filled_pulls" (.cons (.fr 3) (.cons (.fr 4) .nil))) .nil))) .nil)))) .nil)))))
def f_level_sum : Fn := ⟨"level_sum", ["marks", "numbers", "pulls", "weights", "wanted", "mark", "pull"], 1, c_level_sum⟩
def c_best_line : Ss := (.cons (.asg 1 (.lit .non)) (.cons (.frs (.one 2) (.rg1 (.bi .len (.cons (.bo 0) .nil))) (.cons (.frs (.one 3) (.rg1 (.bo 2)) (.cons (.asg 4 (.call "bent_through" (.cons (.lst (.cons (.ix (.bo 0) (.bo 3)) (.cons (.ix (.bo 0) (.bo 2)) .nil))) .nil))) (.cons (.asg 5 (.call "measured" (.cons (.lit (.str "sum")) (.cons (.bo 0) (.cons (.call "row_of" (.cons (.fr 4) (.cons (.fr 0) .nil))) .nil))))) (.cons (.ifs (.or (.cmp .Is (.bo 1) (.lit .non)) (.call "is_less" (.cons (.bo 5) (.cons (.ix (.bo 1) (.lit (.int 0))) .nil)))) (.cons (.asg 1 (.tup (.cons (.fr 5) (.cons (.fr 4) .nil)))) .nil) .nil) (.cons (.kil [3, 4, 5]) .nil))))) (.cons (.kil [3, 4, 5]) (.cons (.kil [2, 3, 4, 5]) .nil)))) (.cons (.kil [2, 3, 4, 5]) (.cons (.ret (.ix (.bo 1) (.lit (.int 1)))) .nil))))
def f_best_line : Fn := ⟨"best_line", ["marks", "best", "k", "j", "numbers", "missed"], 1, c_best_line⟩
def c_mixed_pulls : Ss := (.cons (.asg 4 (.call "filled_pulls" (.cons (.fr 1) (.cons (.fr 2) .nil)))) (.cons (.asg 5 (.lrv (.call "filled_pulls" (.cons (.lrv (.bo 1)) (.cons (.fr 2) .nil))))) (.cons (.asg 6 (.call "total_of" (.cons (.lc (.call "product" (.cons (.bo 11) (.cons (.bo 12) .nil))) (.many [11, 12]) (.zip (.cons (.fr 4) (.cons (.fr 0) .nil))) .no [11, 12]) .nil))) (.cons (.asg 7 (.call "total_of" (.cons (.lc (.call "product" (.cons (.bo 11) (.cons (.bo 12) .nil))) (.many [11, 12]) (.zip (.cons (.fr 5) (.cons (.fr 0) .nil))) .no [11, 12]) .nil))) (.cons (.ifs (.cmp .Eq (.bo 6) (.bo 7)) (.cons (.ret (.mv 4)) .nil) .nil) (.cons (.asg 8 (.call "quotient" (.cons (.call "minus" (.cons (.bo 3) (.cons (.bo 6) .nil))) (.cons (.call "minus" (.cons (.bo 7) (.cons (.bo 6) .nil))) .nil)))) (.cons (.ret (.lc (.call "plus" (.cons (.bo 9) (.cons (.call "product" (.cons (.bo 8) (.cons (.call "minus" (.cons (.bo 10) (.cons (.bo 9) .nil))) .nil))) .nil))) (.many [9, 10]) (.zip (.cons (.fr 4) (.cons (.fr 5) .nil))) .no [9, 10])) .nil)))))))
def f_mixed_pulls : Fn := ⟨"mixed_pulls", ["places", "weights", "wanted", "turned", "first", "last", "low", "high", "share", "one", "other", "pull", "place"], 4, c_mixed_pulls⟩
def c_line_sum : Ss := (.cons (.ifs (.cmp .Eq (.bi .len (.cons (.bo 0) .nil)) (.lit (.int 1))) (.cons (.ret (.tup (.cons (.lst (.cons (.ix (.ix (.bo 0) (.lit (.int 0))) (.lit (.int 1))) (.cons (.tup (.cons (.lit (.int 0)) (.cons (.lit (.int 1)) .nil))) .nil))) (.cons (.lst (.cons (.tup (.cons (.lit (.int 0)) (.cons (.lit (.int 1)) .nil))) .nil)) .nil)))) .nil) .nil) (.cons (.asg 1 (.call "best_line" (.cons (.bo 0) .nil))) (.cons (.asg 2 (.call "outer_pulls" (.cons (.fr 0) (.cons (.call "misses_of" (.cons (.fr 0) (.cons (.call "row_of" (.cons (.fr 1) (.cons (.fr 0) .nil))) .nil))) .nil)))) (.cons (.asg 3 (.lc (.ix (.bo 7) (.lit (.int 0))) (.many [7, 8]) (.zip (.cons (.fr 0) (.cons (.fr 2) .nil))) (.so (.cmp .Is (.bo 8) (.lit .non))) [7, 8])) (.cons (.asg 4 (.lc (.ix (.bo 7) (.lit (.int 2))) (.many [7, 8]) (.zip (.cons (.fr 0) (.cons (.fr 2) .nil))) (.so (.cmp .Is (.bo 8) (.lit .non))) [7, 8])) (.cons (.asg 5 (.neg (.bi .sum (.cons (.lc (.ix (.bo 8) (.lit (.int 0))) (.one 8) (.list (.fr 2)) (.so (.cmp .IsNot (.bo 8) (.lit .non))) [8]) .nil)))) (.cons (.asg 6 (.call "total_of" (.cons (.lc (.call "product" (.cons (.bo 8) (.cons (.ix (.bo 7) (.lit (.int 0))) .nil))) (.many [7, 8]) (.zip (.cons (.fr 0) (.cons (.fr 2) .nil))) (.so (.cmp .IsNot (.bo 8) (.lit .non))) [7, 8]) .nil))) (.cons (.ret (.tup (.cons (.mv 1) (.cons (.call "put_in" (.cons (.fr 2) (.cons (.call "mixed_pulls" (.cons (.fr 3) (.cons (.fr 4) (.cons (.fr 5) (.cons (.call "minus" (.cons (.tup (.cons (.lit (.int 0)) (.cons (.lit (.int 1)) .nil))) (.cons (.bo 6) .nil))) .nil))))) .nil))) .nil)))) .nil))))))))
def f_line_sum : Fn := ⟨"line_sum", ["marks", "numbers", "pulls", "places", "weights", "wanted", "outer", "mark", "pull"], 1, c_line_sum⟩
def c_rises : Ss := (.cons (.frs (.one 1) (.rg2 (.lit (.int 1)) (.bi .len (.cons (.bo 0) .nil))) (.cons (.ifs (.call "is_less" (.cons (.ix (.bo 0) (.bo 1)) (.cons (.ix (.bo 0) (.bin .Sub (.bo 1) (.lit (.int 1)))) .nil))) (.cons (.ret (.lit (.bl false))) .nil) .nil) (.cons (.kil [1]) .nil))) (.cons (.kil [1]) (.cons (.ret (.lit (.bl true))) .nil)))
def f_rises : Fn := ⟨"rises", ["row", "k"], 1, c_rises⟩
def c_holds_up : Ss := (.cons (.asg 2 (.tup (.cons (.lit (.int 0)) (.cons (.lit (.int 1)) .nil)))) (.cons (.frs (.one 3) (.rg1 (.bi .len (.cons (.bo 1) .nil))) (.cons (.asg 2 (.call "plus" (.cons (.bo 2) (.cons (.ix (.bo 1) (.bo 3)) .nil)))) (.cons (.asg 4 (.and (.cmp .Lt (.bin .Add (.bo 3) (.lit (.int 1))) (.bi .len (.cons (.bo 0) .nil))) (.cmp .Eq (.ix (.bo 0) (.bin .Add (.bo 3) (.lit (.int 1)))) (.ix (.bo 0) (.bo 3))))) (.cons (.ifs (.or (.cmp .Lt (.ix (.bo 2) (.lit (.int 0))) (.lit (.int 0))) (.and (.cmp .Gt (.ix (.bo 2) (.lit (.int 0))) (.lit (.int 0))) (.not (.bo 4)))) (.cons (.ret (.lit (.bl false))) .nil) .nil) (.cons (.kil [3, 4]) .nil))))) (.cons (.kil [2, 3, 4]) (.cons (.ret (.lit (.bl true))) .nil))))
def f_holds_up : Fn := ⟨"holds_up", ["row", "pulls", "come", "k", "level_on"], 2, c_holds_up⟩
def c_greatest_drop : Ss := (.cons (.asg 1 (.tup (.cons (.lit (.int 0)) (.cons (.lit (.int 0)) .nil)))) (.cons (.asg 2 (.tup (.cons (.lit (.int 0)) (.cons (.lit (.int 1)) .nil)))) (.cons (.frs (.one 3) (.rg1 (.bi .len (.cons (.bo 0) .nil))) (.cons (.frs (.one 4) (.rg1 (.bo 3)) (.cons (.asg 5 (.call "minus" (.cons (.ix (.ix (.bo 0) (.bo 4)) (.lit (.int 1))) (.cons (.ix (.ix (.bo 0) (.bo 3)) (.lit (.int 1))) .nil)))) (.cons (.ifs (.call "is_less" (.cons (.bo 2) (.cons (.bo 5) .nil))) (.cons (.asg 2 (.mv 5)) (.cons (.asg 1 (.tup (.cons (.fr 4) (.cons (.fr 3) .nil)))) .nil)) .nil) (.cons (.kil [4, 5]) .nil)))) (.cons (.kil [4, 5]) (.cons (.kil [3, 4, 5]) .nil)))) (.cons (.kil [2, 3, 4, 5]) (.cons (.ret (.mv 1)) .nil)))))
def f_greatest_drop : Fn := ⟨"greatest_drop", ["marks", "best", "most", "i", "j", "drop"], 1, c_greatest_drop⟩
def c_rise_by_far : Ss := (.cons (.asg 1 (.lc (.ix (.bo 9) (.lit (.int 1))) (.one 9) (.list (.fr 0)) .no [9])) (.cons (.asg 2 (.bi .list (.cons (.bo 1) .nil))) (.cons (.frs (.one 3) (.rg3 (.bin .Sub (.bi .len (.cons (.bo 2) .nil)) (.lit (.int 2))) (.neg (.lit (.int 1))) (.neg (.lit (.int 1)))) (.cons (.ifs (.call "is_less" (.cons (.ix (.bo 2) (.bin .Add (.bo 3) (.lit (.int 1)))) (.cons (.ix (.bo 2) (.bo 3)) .nil))) (.cons (.set1 2 (.bo 3) (.ix (.bo 2) (.bin .Add (.bo 3) (.lit (.int 1))))) .nil) .nil) (.cons (.kil [3]) .nil))) (.cons (.kil [3]) (.cons (.asg 4 (.lst .nil)) (.cons (.asg 5 (.ix (.bo 1) (.lit (.int 0)))) (.cons (.frs (.one 3) (.rg1 (.bi .len (.cons (.bo 1) .nil))) (.cons (.ifs (.call "is_less" (.cons (.bo 5) (.cons (.ix (.bo 1) (.bo 3)) .nil))) (.cons (.asg 5 (.ix (.bo 1) (.bo 3))) .nil) .nil) (.cons (.mut0 .append 4 (.cons (.call "product" (.cons (.glb "HALF") (.cons (.call "plus" (.cons (.bo 5) (.cons (.ix (.bo 2) (.bo 3)) .nil))) .nil))) .nil)) (.cons (.kil [3]) .nil)))) (.cons (.kil [3, 5]) (.cons (.asg 6 (.lc (.tup (.cons (.lit (.int 0)) (.cons (.lit (.int 1)) .nil))) (.one 9) (.list (.fr 0)) .no [9])) (.cons (.unp [7, 8] (.call "greatest_drop" (.cons (.bo 0) .nil))) (.cons (.ifs (.cmp .Lt (.bo 7) (.bo 8)) (.cons (.set1 6 (.bo 7) (.glb "HALF")) (.cons (.set1 6 (.bo 8) (.tup (.cons (.neg (.lit (.int 1))) (.cons (.lit (.int 2)) .nil)))) .nil)) .nil) (.cons (.ret (.tup (.cons (.mv 4) (.cons (.mv 6) .nil)))) .nil))))))))))))
def f_rise_by_far : Fn := ⟨"rise_by_far", ["marks", "heights", "low", "k", "row", "high", "pulls", "j", "i", "mark"], 1, c_rise_by_far⟩
def c_mean_level : Ss := (.cons (.asg 1 (.bi .sum (.cons (.lc (.ix (.bo 2) (.lit (.int 2))) (.one 2) (.list (.fr 0)) .no [2]) .nil))) (.cons (.ret (.call "quotient" (.cons (.call "total_of" (.cons (.lc (.call "product" (.cons (.tup (.cons (.ix (.bo 2) (.lit (.int 2))) (.cons (.lit (.int 1)) .nil))) (.cons (.ix (.bo 2) (.lit (.int 1))) .nil))) (.one 2) (.list (.fr 0)) .no [2]) .nil)) (.cons (.tup (.cons (.fr 1) (.cons (.lit (.int 1)) .nil))) .nil)))) .nil))
def f_mean_level : Fn := ⟨"mean_level", ["block", "weight", "mark"], 1, c_mean_level⟩
def c_middle_level : Ss := (.cons (.asg 1 (.bi .sum (.cons (.lc (.ix (.bo 3) (.lit (.int 2))) (.one 3) (.list (.fr 0)) .no [3]) .nil))) (.cons (.asg 2 (.lit .non)) (.cons (.frs (.one 3) (.list (.fr 0)) (.cons (.asg 4 (.bi .sum (.cons (.lc (.ix (.bo 5) (.lit (.int 2))) (.one 5) (.list (.fr 0)) (.so (.not (.call "is_less" (.cons (.ix (.bo 3) (.lit (.int 1))) (.cons (.ix (.bo 5) (.lit (.int 1))) .nil))))) [5]) .nil))) (.cons (.ifs (.and (.cmp .GtE (.bin .Mult (.lit (.int 2)) (.bo 4)) (.bo 1)) (.or (.cmp .Is (.bo 2) (.lit .non)) (.call "is_less" (.cons (.ix (.bo 3) (.lit (.int 1))) (.cons (.bo 2) .nil))))) (.cons (.asg 2 (.ix (.bo 3) (.lit (.int 1)))) .nil) .nil) (.cons (.kil [3, 4, 5]) .nil)))) (.cons (.kil [3, 4, 5]) (.cons (.ret (.mv 2)) .nil)))))
def f_middle_level : Fn := ⟨"middle_level", ["block", "weight", "found", "mark", "under", "other"], 1, c_middle_level⟩
def c_blocks_of : Ss := (.cons (.asg 2 (.lst .nil)) (.cons (.frs (.one 3) (.list (.fr 1)) (.cons (.asg 4 (.lst (.cons (.fr 3) .nil))) (.cons (.asg 5 (.ix (.bo 3) (.lit (.int 1)))) (.cons (.whl (.and (.cmp .NotEq (.bo 2) (.lst .nil)) (.call "is_less" (.cons (.bo 5) (.cons (.ix (.ix (.bo 2) (.neg (.lit (.int 1)))) (.lit (.int 1))) .nil)))) (.cons (.asg 4 (.bin .Add (.ix (.pop 2) (.lit (.int 0))) (.bo 4))) (.cons (.ifs (.cmp .Eq (.bo 0) (.lit (.str "square"))) (.cons (.asg 5 (.call "mean_level" (.cons (.bo 4) .nil))) .nil) (.cons (.asg 5 (.call "middle_level" (.cons (.bo 4) .nil))) .nil)) .nil))) (.cons (.mut0 .append 2 (.cons (.tup (.cons (.fr 4) (.cons (.fr 5) .nil))) .nil)) (.cons (.kil [3, 4, 5]) .nil)))))) (.cons (.kil [3, 4, 5]) (.cons (.ret (.mv 2)) .nil))))
def f_blocks_of : Fn := ⟨"blocks_of", ["kind", "marks", "blocks", "mark", "block", "level"], 2, c_blocks_of⟩
def c_pulls_of_mean : Ss := (.cons (.ret (.lc (.call "product" (.cons (.tup (.cons (.ix (.bo 2) (.lit (.int 2))) (.cons (.lit (.int 1)) .nil))) (.cons (.call "minus" (.cons (.ix (.bo 2) (.lit (.int 1))) (.cons (.bo 1) .nil))) .nil))) (.one 2) (.list (.fr 0)) .no [2])) .nil)
def f_pulls_of_mean : Fn := ⟨"pulls_of_mean", ["block", "level", "mark"], 2, c_pulls_of_mean⟩
def c_pulls_of_middle : Ss := (.cons (.asg 2 (.lit (.int 0))) (.cons (.frs (.one 3) (.list (.fr 0)) (.cons (.ifs (.call "is_less" (.cons (.bo 1) (.cons (.ix (.bo 3) (.lit (.int 1))) .nil))) (.cons (.aug 2 .Sub (.ix (.bo 3) (.lit (.int 2)))) .nil) (.cons (.aug 2 .Add (.ix (.bo 3) (.lit (.int 2)))) .nil)) (.cons (.kil [3]) .nil))) (.cons (.kil [3]) (.cons (.asg 4 (.lst .nil)) (.cons (.frs (.one 3) (.list (.fr 0)) (.cons (.asg 5 (.bin .Sub (.lit (.int 0)) (.ix (.bo 3) (.lit (.int 2))))) (.cons (.ifs (.cmp .Eq (.ix (.bo 3) (.lit (.int 1))) (.bo 1)) (.cons (.asg 6 (.bi .min (.cons (.bo 2) (.cons (.bin .Mult (.lit (.int 2)) (.ix (.bo 3) (.lit (.int 2)))) .nil)))) (.cons (.aug 2 .Sub (.bo 6)) (.cons (.aug 5 .Add (.bo 6)) .nil))) (.cons (.ifs (.call "is_less" (.cons (.bo 1) (.cons (.ix (.bo 3) (.lit (.int 1))) .nil))) (.cons (.asg 5 (.ix (.bo 3) (.lit (.int 2)))) .nil) .nil) .nil)) (.cons (.mut0 .append 4 (.cons (.tup (.cons (.fr 5) (.cons (.lit (.int 1)) .nil))) .nil)) (.cons (.kil [3, 5, 6]) .nil))))) (.cons (.kil [2, 3, 5, 6]) (.cons (.ret (.mv 4)) .nil)))))))
def f_pulls_of_middle : Fn := ⟨"pulls_of_middle", ["block", "level", "lacking", "mark", "pulls", "pull", "more"], 2, c_pulls_of_middle⟩
def c_rise_least : Ss := (.cons (.ifs (.cmp .Eq (.bo 0) (.lit (.str "far"))) (.cons (.ret (.call "rise_by_far" (.cons (.fr 1) .nil))) .nil) .nil) (.cons (.ifs (.and (.cmp .NotEq (.bo 0) (.lit (.str "sum"))) (.cmp .NotEq (.bo 0) (.lit (.str "square")))) (.cons (.rse "NoKind") .nil) .nil) (.cons (.asg 2 (.lst .nil)) (.cons (.asg 3 (.lst .nil)) (.cons (.frs (.many [4, 5]) (.list (.call "blocks_of" (.cons (.fr 0) (.cons (.fr 1) .nil)))) (.cons (.mut0 .extend 2 (.cons (.lc (.fr 5) (.one 6) (.list (.fr 4)) .no [6]) .nil)) (.cons (.ifs (.cmp .Eq (.bo 0) (.lit (.str "square"))) (.cons (.mut0 .extend 3 (.cons (.call "pulls_of_mean" (.cons (.fr 4) (.cons (.fr 5) .nil))) .nil)) .nil) (.cons (.mut0 .extend 3 (.cons (.call "pulls_of_middle" (.cons (.fr 4) (.cons (.fr 5) .nil))) .nil)) .nil)) (.cons (.kil [4, 5, 6]) .nil)))) (.cons (.kil [4, 5, 6]) (.cons (.ret (.tup (.cons (.mv 2) (.cons (.mv 3) .nil)))) .nil)))))))
def f_rise_least : Fn := ⟨"rise_least", ["kind", "marks", "row", "pulls", "block", "level", "mark"], 2, c_rise_least⟩
def c_rise_shown : Ss := (.cons (.ifs (.not (.call "is_fair" (.cons (.bo 0) (.cons (.bo 1) (.cons (.bo 2) (.cons (.bo 3) .nil)))))) (.cons (.ret (.lit (.bl false))) .nil) .nil) (.cons (.ret (.and (.call "rises" (.cons (.bo 2) .nil)) (.call "holds_up" (.cons (.bo 2) (.cons (.bo 3) .nil))))) .nil))
def f_rise_shown : Fn := ⟨"rise_shown", ["kind", "marks", "row", "pulls"], 4, c_rise_shown⟩
def c_stretch_level : Ss := (.cons (.asg 4 (.sl (.bo 1) (.so (.bo 2)) (.so (.bin .Add (.bo 3) (.lit (.int 1)))))) (.cons (.ifs (.cmp .Eq (.bo 0) (.lit (.str "far"))) (.cons (.asg 5 (.lc (.ix (.bo 7) (.lit (.int 1))) (.one 7) (.list (.fr 4)) .no [7])) (.cons (.ret (.call "quotient" (.cons (.call "plus" (.cons (.call "greatest_of" (.cons (.bo 5) .nil)) (.cons (.call "least_of" (.cons (.bo 5) .nil)) .nil))) (.cons (.tup (.cons (.lit (.int 2)) (.cons (.lit (.int 1)) .nil))) .nil)))) .nil)) .nil) (.cons (.ifs (.cmp .Eq (.bo 0) (.lit (.str "sum"))) (.cons (.ret (.ix (.ix (.call "level_sum" (.cons (.fr 4) .nil)) (.lit (.int 0))) (.lit (.int 0)))) .nil) .nil) (.cons (.ifs (.cmp .Eq (.bo 0) (.lit (.str "square"))) (.cons (.asg 6 (.bi .sum (.cons (.lc (.ix (.bo 7) (.lit (.int 2))) (.one 7) (.list (.fr 4)) .no [7]) .nil))) (.cons (.ret (.call "quotient" (.cons (.call "total_of" (.cons (.lc (.call "product" (.cons (.tup (.cons (.ix (.bo 7) (.lit (.int 2))) (.cons (.lit (.int 1)) .nil))) (.cons (.ix (.bo 7) (.lit (.int 1))) .nil))) (.one 7) (.list (.fr 4)) .no [7]) .nil)) (.cons (.tup (.cons (.fr 6) (.cons (.lit (.int 1)) .nil))) .nil)))) .nil)) .nil) (.cons (.rse "NoKind") .nil)))))
def f_stretch_level : Fn := ⟨"stretch_level", ["kind", "marks", "first", "last", "part", "heights", "weight", "mark"], 4, c_stretch_level⟩
def c_stretch_cost : Ss := (.cons (.asg 4 (.call "stretch_level" (.cons (.bo 0) (.cons (.bo 1) (.cons (.bo 2) (.cons (.bo 3) .nil)))))) (.cons (.asg 5 (.sl (.bo 1) (.so (.bo 2)) (.so (.bin .Add (.bo 3) (.lit (.int 1)))))) (.cons (.ret (.call "measured" (.cons (.bo 0) (.cons (.bo 5) (.cons (.lc (.fr 4) (.one 6) (.list (.fr 5)) .no [6]) .nil))))) .nil)))
def f_stretch_cost : Fn := ⟨"stretch_cost", ["kind", "marks", "first", "last", "level", "part", "mark"], 4, c_stretch_cost⟩
def c_joined : Ss := (.cons (.ifs (.cmp .Eq (.bo 0) (.lit (.str "far"))) (.cons (.ifs (.call "is_less" (.cons (.bo 1) (.cons (.bo 2) .nil))) (.cons (.ret (.mv 2)) .nil) .nil) (.cons (.ret (.mv 1)) .nil)) .nil) (.cons (.ifs (.or (.cmp .Eq (.bo 0) (.lit (.str "sum"))) (.cmp .Eq (.bo 0) (.lit (.str "square")))) (.cons (.ret (.call "plus" (.cons (.bo 1) (.cons (.bo 2) .nil)))) .nil) .nil) (.cons (.rse "NoKind") .nil)))
def f_joined : Fn := ⟨"joined", ["kind", "one", "other"], 3, c_joined⟩
def c_steps_of : Ss := (.cons (.ret (.bi .len (.cons (.lc (.fr 1) (.one 1) (.rg2 (.lit (.int 1)) (.bi .len (.cons (.bo 0) .nil))) (.so (.cmp .NotEq (.ix (.bo 0) (.bo 1)) (.ix (.bo 0) (.bin .Sub (.bo 1) (.lit (.int 1)))))) [1]) .nil))) .nil)
def f_steps_of : Fn := ⟨"steps_of", ["row", "k"], 1, c_steps_of⟩
def c_all_costs : Ss := (.cons (.asg 2 (.lst .nil)) (.cons (.frs (.one 3) (.rg1 (.bi .len (.cons (.bo 1) .nil))) (.cons (.mut0 .append 2 (.cons (.shr (.lc (.call "stretch_cost" (.cons (.bo 0) (.cons (.bo 1) (.cons (.bo 4) (.cons (.bo 3) .nil))))) (.one 4) (.rg1 (.bin .Add (.bo 3) (.lit (.int 1)))) .no [4])) .nil)) (.cons (.kil [3, 4]) .nil))) (.cons (.kil [3, 4]) (.cons (.ret (.mv 2)) .nil))))
def f_all_costs : Fn := ⟨"all_costs", ["kind", "marks", "costs", "last", "first"], 2, c_all_costs⟩
def c_is_low : Ss := (.cons (.asg 3 (.call "all_costs" (.cons (.fr 0) (.cons (.fr 1) .nil)))) (.cons (.frs (.one 4) (.rg1 (.bi .len (.cons (.bo 2) .nil))) (.cons (.frs (.one 5) (.rg1 (.bi .len (.cons (.bo 1) .nil))) (.cons (.ifs (.call "is_less" (.cons (.ix (.ix (.bo 3) (.bo 5)) (.lit (.int 0))) (.cons (.ix (.ix (.bo 2) (.bo 4)) (.bo 5)) .nil))) (.cons (.ret (.lit (.bl false))) .nil) .nil) (.cons (.ifs (.cmp .Eq (.bo 4) (.lit (.int 0))) (.cons (.kil [5, 6]) (.cons .cnt .nil)) .nil) (.cons (.frs (.one 6) (.rg2 (.lit (.int 1)) (.bin .Add (.bo 5) (.lit (.int 1)))) (.cons (.ifs (.call "is_less" (.cons (.call "joined" (.cons (.bo 0) (.cons (.ix (.ix (.bo 2) (.bin .Sub (.bo 4) (.lit (.int 1)))) (.bin .Sub (.bo 6) (.lit (.int 1)))) (.cons (.ix (.ix (.bo 3) (.bo 5)) (.bo 6)) .nil)))) (.cons (.ix (.ix (.bo 2) (.bo 4)) (.bo 5)) .nil))) (.cons (.ret (.lit (.bl false))) .nil) .nil) (.cons (.kil [6]) .nil))) (.cons (.kil [6]) (.cons (.kil [5, 6]) .nil)))))) (.cons (.kil [5, 6]) (.cons (.kil [4, 5, 6]) .nil)))) (.cons (.kil [4, 5, 6]) (.cons (.ret (.lit (.bl true))) .nil))))
def f_is_low : Fn := ⟨"is_low", ["kind", "marks", "table", "costs", "j", "i", "h"], 3, c_is_low⟩
def c_next_list : Ss := (.cons (.asg 3 (.lst .nil)) (.cons (.frs (.one 4) (.rg1 (.bi .len (.cons (.bo 1) .nil))) (.cons (.asg 5 (.tup (.cons (.ix (.ix (.bo 1) (.bo 4)) (.lit (.int 0))) (.cons (.lit (.int 0)) .nil)))) (.cons (.frs (.one 6) (.rg2 (.lit (.int 1)) (.bin .Add (.bo 4) (.lit (.int 1)))) (.cons (.asg 7 (.call "joined" (.cons (.bo 0) (.cons (.ix (.ix (.bo 2) (.bin .Sub (.bo 6) (.lit (.int 1)))) (.lit (.int 0))) (.cons (.ix (.ix (.bo 1) (.bo 4)) (.bo 6)) .nil))))) (.cons (.ifs (.call "is_less" (.cons (.bo 7) (.cons (.ix (.bo 5) (.lit (.int 0))) .nil))) (.cons (.asg 5 (.tup (.cons (.fr 7) (.cons (.fr 6) .nil)))) .nil) .nil) (.cons (.kil [6, 7]) .nil)))) (.cons (.kil [6, 7]) (.cons (.mut0 .append 3 (.cons (.fr 5) .nil)) (.cons (.kil [4, 5, 6, 7]) .nil)))))) (.cons (.kil [4, 5, 6, 7]) (.cons (.ret (.mv 3)) .nil))))
def f_next_list : Fn := ⟨"next_list", ["kind", "costs", "entries", "found", "i", "best", "h", "cost"], 3, c_next_list⟩
def c_row_by : Ss := (.cons (.asg 3 (.lst .nil)) (.cons (.asg 4 (.bin .Sub (.bi .len (.cons (.bo 1) .nil)) (.lit (.int 1)))) (.cons (.asg 5 (.bin .Sub (.bi .len (.cons (.bo 2) .nil)) (.lit (.int 1)))) (.cons (.whl (.cmp .GtE (.bo 4) (.lit (.int 0))) (.cons (.asg 6 (.ix (.ix (.ix (.bo 2) (.bo 5)) (.bo 4)) (.lit (.int 1)))) (.cons (.asg 7 (.call "stretch_level" (.cons (.bo 0) (.cons (.bo 1) (.cons (.bo 6) (.cons (.bo 4) .nil)))))) (.cons (.asg 3 (.bin .Add (.lc (.fr 7) (.one 8) (.rg2 (.bo 6) (.bin .Add (.bo 4) (.lit (.int 1)))) .no [8]) (.bo 3))) (.cons (.asg 4 (.bin .Sub (.bo 6) (.lit (.int 1)))) (.cons (.aug 5 .Sub (.lit (.int 1))) (.cons (.kil [6, 7, 8]) .nil))))))) (.cons (.kil [4, 5, 6, 7, 8]) (.cons (.ret (.mv 3)) .nil))))))
def f_row_by : Fn := ⟨"row_by", ["kind", "marks", "lists", "row", "i", "j", "first", "level", "k"], 3, c_row_by⟩
def c_step_least : Ss := (.cons (.asg 3 (.call "all_costs" (.cons (.fr 0) (.cons (.fr 1) .nil)))) (.cons (.ifs (.or (.cmp .Lt (.bo 2) (.lit (.int 0))) (.cmp .Gt (.bo 2) (.glb "MOST_STEPS"))) (.cons (.rse "NoNumber") .nil) .nil) (.cons (.asg 4 (.lst (.cons (.shr (.lc (.tup (.cons (.ix (.ix (.bo 3) (.bo 8)) (.lit (.int 0))) (.cons (.lit (.int 0)) .nil))) (.one 8) (.rg1 (.bi .len (.cons (.bo 1) .nil))) .no [8])) .nil))) (.cons (.frs (.one 5) (.rg1 (.bo 2)) (.cons (.mut0 .append 4 (.cons (.shr (.call "next_list" (.cons (.fr 0) (.cons (.fr 3) (.cons (.ix (.bo 4) (.neg (.lit (.int 1)))) .nil))))) .nil)) (.cons (.kil [5]) .nil))) (.cons (.kil [5]) (.cons (.asg 6 (.lc (.shr (.lc (.ix (.bo 9) (.lit (.int 0))) (.one 9) (.list (.fr 7)) .no [9])) (.one 7) (.brw 4) .no [7])) (.cons (.ret (.tup (.cons (.call "row_by" (.cons (.fr 0) (.cons (.fr 1) (.cons (.fr 4) .nil)))) (.cons (.mv 6) .nil)))) .nil)))))))
def f_step_least : Fn := ⟨"step_least", ["kind", "marks", "k", "costs", "lists", "j", "table", "entries", "i", "entry"], 3, c_step_least⟩
def c_step_shown : Ss := (.cons (.asg 5 (.call "measured" (.cons (.bo 0) (.cons (.bo 1) (.cons (.bo 3) .nil))))) (.cons (.ifs (.or (.cmp .Gt (.call "steps_of" (.cons (.bo 3) .nil)) (.bo 2)) (.cmp .NotEq (.bi .len (.cons (.bo 4) .nil)) (.bin .Add (.bo 2) (.lit (.int 1))))) (.cons (.ret (.lit (.bl false))) .nil) .nil) (.cons (.frs (.one 6) (.list (.fr 4)) (.cons (.ifs (.cmp .NotEq (.bi .len (.cons (.bo 6) .nil)) (.bi .len (.cons (.bo 1) .nil))) (.cons (.ret (.lit (.bl false))) .nil) .nil) (.cons (.kil [6]) .nil))) (.cons (.kil [6]) (.cons (.ret (.and (.cmp .Eq (.ix (.ix (.bo 4) (.bo 2)) (.neg (.lit (.int 1)))) (.bo 5)) (.call "is_low" (.cons (.bo 0) (.cons (.bo 1) (.cons (.bo 4) .nil)))))) .nil)))))
def f_step_shown : Fn := ⟨"step_shown", ["kind", "marks", "k", "row", "table", "missed", "entries"], 5, c_step_shown⟩
def c_need_text : Ss := (.cons (.ifs (.not (.isi (.bo 0) .str)) (.cons (.rse "NoText") .nil) .nil) .nil)
def f_need_text : Fn := ⟨"need_text", ["thing"], 1, c_need_text⟩
def c_show_fraction : Ss := (.cons (.ifs (.cmp .Eq (.ix (.bo 0) (.lit (.int 1))) (.lit (.int 1))) (.cons (.ret (.bi .str (.cons (.ix (.bo 0) (.lit (.int 0))) .nil))) .nil) .nil) (.cons (.ret (.bin .Add (.bin .Add (.bi .str (.cons (.ix (.bo 0) (.lit (.int 0))) .nil)) (.lit (.str "/"))) (.bi .str (.cons (.ix (.bo 0) (.lit (.int 1))) .nil)))) .nil))
def f_show_fraction : Fn := ⟨"show_fraction", ["x"], 1, c_show_fraction⟩
def c_show_mark : Ss := (.cons (.ret (.bin .Add (.bin .Add (.bin .Add (.bin .Add (.call "show_fraction" (.cons (.ix (.bo 0) (.lit (.int 0))) .nil)) (.lit (.str ":"))) (.call "show_fraction" (.cons (.ix (.bo 0) (.lit (.int 1))) .nil))) (.lit (.str "*"))) (.bi .str (.cons (.ix (.bo 0) (.lit (.int 2))) .nil)))) .nil)
def f_show_mark : Fn := ⟨"show_mark", ["mark"], 1, c_show_mark⟩
def c_words_wanted : Ss := (.cons (.asg 1 (.ix (.bo 0) (.lit (.int 0)))) (.cons (.ifs (.and (.cmp .Eq (.bo 1) (.lit (.str "marks"))) (.and (.cmp .LtE (.lit (.int 3)) (.bi .len (.cons (.bo 0) .nil))) (.cmp .LtE (.bi .len (.cons (.bo 0) .nil)) (.lit (.int 62))))) (.cons (.ret (.bin .Add (.lit (.str "n")) (.bin .Mult (.lit (.str "r")) (.bin .Sub (.bi .len (.cons (.bo 0) .nil)) (.lit (.int 2)))))) .nil) .nil) (.cons (.ifs (.and (.cmp .Eq (.bo 1) (.lit (.str "judge"))) (.and (.cmp .LtE (.lit (.int 4)) (.bi .len (.cons (.bo 0) .nil))) (.cmp .LtE (.bi .len (.cons (.bo 0) .nil)) (.lit (.int 63))))) (.cons (.ret (.bin .Add (.lit (.str "om")) (.bin .Mult (.lit (.str "f")) (.bin .Sub (.bi .len (.cons (.bo 0) .nil)) (.lit (.int 3)))))) .nil) .nil) (.cons (.ifs (.or (.cmp .Eq (.bo 1) (.lit (.str "drop"))) (.cmp .Eq (.bo 1) (.lit (.str "show")))) (.cons (.ret (.lit (.str "o"))) .nil) .nil) (.cons (.ifs (.or (.cmp .Eq (.bo 1) (.lit (.str "bend"))) (.cmp .Eq (.bo 1) (.lit (.str "steps")))) (.cons (.ret (.lit (.str "omk"))) .nil) .nil) (.cons (.ifs (.cmp .Eq (.bo 1) (.lit (.str "rise"))) (.cons (.ret (.lit (.str "om"))) .nil) .nil) (.cons (.ifs (.cmp .Eq (.bo 1) (.lit (.str "names"))) (.cons (.ret (.lit (.str ""))) .nil) .nil) (.cons (.ret (.lit .non)) .nil))))))))
def f_words_wanted : Fn := ⟨"words_wanted", ["words", "first"], 1, c_words_wanted⟩
def c_need_name : Ss := (.cons (.ifs (.or (.cmp .Eq (.bo 0) (.lit (.str ""))) (.cmp .Gt (.bi .len (.cons (.bo 0) .nil)) (.lit (.int 8)))) (.cons (.rse "NoName") .nil) .nil) (.cons (.frs (.one 1) (.list (.fr 0)) (.cons (.ifs (.cmp .NotIn (.bo 1) (.lit (.str "abcdefghijklmnopqrstuvwxyz"))) (.cons (.rse "NoName") .nil) .nil) (.cons (.kil [1]) .nil))) (.cons (.kil [1]) .nil)))
def f_need_name : Fn := ⟨"need_name", ["word", "sign"], 1, c_need_name⟩
def c_bend_asked : Ss := (.cons (.ifs (.cmp .NotEq (.bo 0) (.lit (.str "sum"))) (.cons (.ret (.call "bend_least" (.cons (.fr 0) (.cons (.fr 1) (.cons (.fr 2) .nil))))) .nil) .nil) (.cons (.ifs (.cmp .Eq (.bo 2) (.lit (.int 0))) (.cons (.ret (.call "level_sum" (.cons (.fr 1) .nil))) .nil) .nil) (.cons (.ifs (.cmp .Eq (.bo 2) (.lit (.int 1))) (.cons (.ret (.call "line_sum" (.cons (.fr 1) .nil))) .nil) .nil) (.cons (.rse "NoKind") .nil))))
def f_bend_asked : Fn := ⟨"bend_asked", ["kind", "some", "bend"], 3, c_bend_asked⟩
def c_answered : Ss := (.cons (.ifs (.cmp .Eq (.bo 0) (.lit (.str "show"))) (.cons (.ret (.call "show_marks" (.cons (.ix (.bo 1) (.lit (.int 0))) .nil))) .nil) .nil) (.cons (.asg 2 (.ix (.bo 1) (.lit (.int 0)))) (.cons (.asg 3 (.ix (.bo 1) (.lit (.int 1)))) (.cons (.ifs (.cmp .Eq (.bo 0) (.lit (.str "judge"))) (.cons (.ret (.call "answer_of" (.cons (.bo 3) (.cons (.bo 2) (.cons (.sl (.bo 1) (.so (.lit (.int 2))) .no) (.cons (.lst .nil) .nil)))))) .nil) .nil) (.cons (.ifs (.cmp .Eq (.bo 0) (.lit (.str "rise"))) (.cons (.unp [4, 6] (.call "rise_least" (.cons (.fr 3) (.cons (.fr 2) .nil)))) (.cons (.ret (.call "answer_of" (.cons (.bo 3) (.cons (.bo 2) (.cons (.bo 4) (.cons (.lst (.cons (.fr 4) (.cons (.fr 6) .nil))) .nil)))))) .nil)) .nil) (.cons (.ifs (.cmp .Eq (.bo 0) (.lit (.str "steps"))) (.cons (.asg 4 (.ix (.call "step_least" (.cons (.fr 3) (.cons (.fr 2) (.cons (.ix (.bo 1) (.lit (.int 2))) .nil)))) (.lit (.int 0)))) (.cons (.ret (.call "answer_of" (.cons (.bo 3) (.cons (.bo 2) (.cons (.bo 4) (.cons (.lst (.cons (.fr 4) .nil)) .nil)))))) .nil)) .nil) (.cons (.unp [5, 6] (.call "bend_asked" (.cons (.fr 3) (.cons (.fr 2) (.cons (.ix (.bo 1) (.lit (.int 2))) .nil))))) (.cons (.ret (.call "answer_of" (.cons (.bo 3) (.cons (.bo 2) (.cons (.call "row_of" (.cons (.fr 5) (.cons (.fr 2) .nil))) (.cons (.lst (.cons (.fr 5) (.cons (.fr 6) .nil))) .nil)))))) .nil))))))))
def f_answered : Fn := ⟨"answered", ["first", "parts", "some", "kind", "row", "numbers", "pulls"], 2, c_answered⟩
end TV
namespace TV
open PySem PySem.Spec PyProof.Rows L2
theorem gcd_fmod (a b : Int) : Int.gcd b (Int.fmod a b) = Int.gcd a b := by
  rw [Int.fmod_def, Int.gcd_comm a b]
  exact Int.gcd_sub_mul_left_right b a _
theorem fmod_lt (a b : Int) (h : b ≠ 0) : (Int.fmod a b).natAbs < b.natAbs := by
  rw [Int.fmod_eq_emod]
  have h1 := Int.emod_nonneg a h
  have h2 := Int.emod_lt a h
  split
  · omega
  · next hn =>
    have : a % b ≠ 0 := fun z => hn (.inr (Int.dvd_of_emod_eq_zero z))
    omega
theorem frac_core (t b : Int) (hb : b ≠ 0) : (if b < 0 then -(Int.gcd t b : Int) else (Int.gcd t b : Int)) ≠ 0 ∧ t.fdiv (if b < 0 then -(Int.gcd t b : Int) else (Int.gcd t b : Int)) = (Rat.divInt t b).num ∧ b.fdiv (if b < 0 then -(Int.gcd t b : Int) else (Int.gcd t b : Int)) = (Rat.divInt t b).den := by
  refine ⟨?_, ?_, ?_⟩
  · have : Int.gcd t b ≠ 0 := fun z => hb (Int.eq_zero_of_gcd_eq_zero_right z)
    split <;> omega
  · have d1 : (Int.gcd t b : Int) ∣ t := Int.gcd_dvd_left ..
    rw [Rat.num_divInt, Int.gcd_comm b t]
    split
    · next h =>
      rw [Int.fdiv_eq_ediv_of_dvd (Int.neg_dvd.mpr d1), Int.ediv_neg, Int.sign_eq_neg_one_of_neg h, Int.neg_one_mul, Int.neg_ediv_of_dvd d1]
    · next h =>
      rw [Int.fdiv_eq_ediv_of_dvd d1, Int.sign_eq_one_of_pos (by omega), Int.one_mul]
  · have d2 : (Int.gcd t b : Int) ∣ b := Int.gcd_dvd_right ..
    rw [Rat.den_divInt, if_neg hb, Int.gcd_comm b t]
    split
    · next h =>
      rw [Int.fdiv_eq_ediv_of_dvd (Int.neg_dvd.mpr d2), Int.ediv_neg, ← Int.neg_ediv_of_dvd d2, Int.natCast_ediv]
      congr 1
      omega
    · next h =>
      rw [Int.fdiv_eq_ediv_of_dvd d2, Int.natCast_ediv]
      congr 1
      omega
theorem divInt_parts (t b : Int) (hb : b ≠ 0) : ∃ g : Int, g ≠ 0 ∧ t = (Rat.divInt t b).num * g ∧ b = (Rat.divInt t b).den * g := by
  obtain ⟨k1, k2, k3⟩ := frac_core t b hb
  refine ⟨_, k1, ?_, ?_⟩
  · rw [← k2]
    refine (Int.fdiv_mul_cancel ?_).symm
    split
    · exact Int.neg_dvd.mpr (Int.gcd_dvd_left ..)
    · exact Int.gcd_dvd_left ..
  · rw [← k3]
    refine (Int.fdiv_mul_cancel ?_).symm
    split
    · exact Int.neg_dvd.mpr (Int.gcd_dvd_right ..)
    · exact Int.gcd_dvd_right ..
theorem natAbs_mul_le {a g : Int} (h : g ≠ 0) : a.natAbs ≤ (a * g).natAbs := by
  rw [Int.natAbs_mul]
  exact Nat.le_mul_of_pos_right _ (by omega)
theorem divInt_cross (t b : Int) (hb : b ≠ 0) : (Rat.divInt t b).num * b = t * (Rat.divInt t b).den := by
  obtain ⟨g, h0, h1, h2⟩ := divInt_parts t b hb
  generalize Rat.divInt t b = q at h1 h2 ⊢
  rw [h1, h2]
  grind
theorem divInt_num_le (t b : Int) (hb : b ≠ 0) : (Rat.divInt t b).num.natAbs ≤ t.natAbs := by
  obtain ⟨g, h0, h1, h2⟩ := divInt_parts t b hb
  have := natAbs_mul_le (a := (Rat.divInt t b).num) h0
  rwa [← h1] at this
theorem divInt_den_le (t b : Int) (hb : b ≠ 0) : (Rat.divInt t b).den ≤ b.natAbs := by
  obtain ⟨g, h0, h1, h2⟩ := divInt_parts t b hb
  have := natAbs_mul_le (a := (Rat.divInt t b).den) h0
  rw [← h2] at this
  simpa using this
theorem Bd.num {n : Nat} {t b : Int} (h : Bd n t) (hb : b ≠ 0) : Bd n (Rat.divInt t b).num := Nat.lt_of_le_of_lt (divInt_num_le t b hb) h
theorem Bd.den {n : Nat} {t b : Int} (h : Bd n b) (hb : b ≠ 0) : Bd n (Rat.divInt t b).den := by
  have := divInt_den_le t b hb
  unfold Bd at *
  simp only [Int.natAbs_natCast]
  omega
theorem rat_gcd (q : Rat) : Int.gcd q.num q.den = 1 := by
  have := q.reduced
  simpa [Int.gcd, Nat.Coprime] using this
theorem den_pos (q : Rat) : (0 : Int) < q.den := by have := q.den_pos; omega
theorem noOwL_ints : ∀ l : List Int, noOwL (l.map D.int) = true
  | [] => rfl
  | _ :: l => by rw [List.map_cons, noOwL, noOwL_ints l]; rfl
theorem noShL_ints : ∀ l : List Int, noShL (l.map D.int) = true
  | [] => rfl
  | _ :: l => by rw [List.map_cons, noShL, noShL_ints l]; rfl
theorem wholeL_ints : ∀ l : List Int, wholeL (l.map D.int) = true
  | [] => rfl
  | _ :: l => by rw [List.map_cons, wholeL, wholeL_ints l]; rfl
theorem shareL_ints (l : List Int) : shareL (l.map D.int) = l.map D.int := shareL_id (noOwL_ints l)
theorem cutD_take (ds : List D) (k : Nat) : cutD ds none (some (k : Int)) = ds.take k := by
  unfold cutD
  rw [HT.sIx_nat]
  show (ds.drop 0).take (min k ds.length - 0) = _
  rw [List.drop_zero, Nat.sub_zero]
  rcases Nat.le_total k ds.length with h | h
  · rw [Nat.min_eq_left h]
  · rw [Nat.min_eq_right h, List.take_of_length_le (Nat.le_refl _), List.take_of_length_le h]
theorem cutD_drop (ds : List D) (k : Nat) : cutD ds (some (k : Int)) none = ds.drop k := by
  unfold cutD
  rw [HT.sIx_nat]
  show (ds.drop (min k ds.length)).take (ds.length - min k ds.length) = _
  rcases Nat.le_total k ds.length with h | h
  · rw [Nat.min_eq_left h, List.take_of_length_le (by simp)]
  · rw [Nat.min_eq_right h, List.drop_of_length_le h, List.drop_of_length_le (Nat.le_refl _)]; simp
theorem atI_nat {α : Type} (l : List α) (k : Nat) : atI l (k : Int) = l[k]? := by
  unfold atI ixN
  rw [if_pos (by omega)]
  by_cases h : k < l.length
  · rw [if_pos (by omega)]; simp
  · rw [if_neg (by omega), List.getElem?_eq_none (by omega)]; rfl
theorem atI_ints (l : List Int) (k : Nat) (h : k < l.length) : atI (l.map D.int) (k : Int) = some (.int (l.getD k 0)) := by
  rw [atI_nat, List.getElem?_map, List.getD_eq_getElem?_getD, List.getElem?_eq_getElem h]; rfl
theorem fmod_nat (a b : Nat) : Int.fmod (a : Int) (b : Int) = ((a % b : Nat) : Int) := by
  rw [Int.fmod_eq_emod_of_nonneg _ (by omega)]; rfl
theorem mem_rgD {lo : Int} {n : Nat} {c : Int} {d : D} (h : d ∈ rgD lo n c) : ∃ k, k < n ∧ d = .int (lo + (k : Int) * c) := by
  unfold rgD at h
  obtain ⟨k, hk, rfl⟩ := List.mem_map.mp h
  exact ⟨k, List.mem_range.mp hk, rfl⟩
theorem mem_rg3 {hi c : Int} {d : D} (hc : 0 < c) (h : d ∈ rgD 0 (rgN 0 hi c) c) : ∃ k : Nat, ((k : Int) * c < hi) ∧ d = .int ((k : Int) * c) := by
  obtain ⟨k, hk, rfl⟩ := mem_rgD h
  refine ⟨k, ?_, by rw [Int.zero_add]⟩
  unfold rgN Builtin.Range.rangeSize at hk
  rw [if_pos (by omega)] at hk
  split at hk
  · next h0 =>
    have h1 : (k : Int) ≤ (hi - 0 - 1) / c := by omega
    have h2 := Int.mul_le_of_le_ediv hc h1
    omega
  · simp at hk
theorem fmod_bd {a : Int} {m : Int} {n : Nat} (hm : 0 < m) (h : m ≤ 2 ^ n) : Bd n (a.fmod m) := by
  have h1 := Int.fmod_nonneg_of_pos a hm
  have h2 := Int.fmod_lt_of_pos a hm
  refine Bd.of ?_ (by omega)
  have : (0 : Int) < 2 ^ n := Int.pow_pos (by decide)
  omega
section
variable {exc : Xs} {glb : Str → Option D} {T : List Fn} {n : Nat}

theorem gcd_loop {C : Ctx} : ∀ (k : Nat) (a b : Int), 0 ≤ a → b = k →
    ∃ z, whN (evE C (.cmp .Gt (.bo 1) (.lit (.int 0)))) (evSs C (.cons (.par 0 1 (.fr 1) (.bin .Mod (.bo 0) (.bo 1))) .nil)) z [.int a, .int b] = some (.nx [.int (Int.gcd a b), .int 0]) := by
  intro k
  induction k using Nat.strongRecOn with
  | _ k ih =>
  intro a b ha hb
  by_cases h0 : k = 0
  · subst h0
    have hb : b = 0 := by omega
    subst hb
    have e : ((Int.gcd a 0 : Nat) : Int) = a := by simp [Int.natAbs_of_nonneg ha]
    rw [e]
    refine whP_end (e1 := [.int a, .int 0]) (t := .val (.bl false)) ?_ rfl
    simp [evE, bnd, obnd, res, litD, atom, opCmp, D.share]
  · have hpos : 0 < b := by omega
    have hm := Int.fmod_nonneg_of_pos a hpos
    have hl := fmod_lt a b (by omega)
    obtain ⟨z, hz⟩ := ih (Int.fmod a b).natAbs (by omega) b (Int.fmod a b) (by omega) (by omega)
    rw [gcd_fmod] at hz
    refine whP_step (e1 := [.int a, .int b]) (t := .val (.bl true)) (e2 := [.int b, .int (Int.fmod a b)]) ?_ rfl ?_ ⟨z, hz⟩
    · simp [evE, bnd, obnd, res, litD, atom, opCmp, D.share, hpos]
    · have hne : b ≠ 0 := by omega
      simp [evE, evSs, evS, bnd, sbnd, obnd, raw, D.share, opBin, hne]
theorem run_common_divisor (h : Has T f_common_divisor) (a b : Int) : run real exc glb T (n + 1) "common_divisor" [.int a, .int b] = some (.ok (.int (Int.gcd a b))) := by
  rw [run_eq (f := "common_divisor") (d := f_common_divisor) h rfl]
  obtain ⟨z, hz⟩ := gcd_loop (C := ctx real exc glb T n) b.natAbs (if a < 0 then -a else a) (if b < 0 then -b else b) (by split <;> omega) (by split <;> omega)
  have hz : loopW (ctx real exc glb T n) _ _ _ = _ := whP_of hz
  have e : Int.gcd (if a < 0 then -a else a) (if b < 0 then -b else b) = Int.gcd a b := by
    split <;> split <;> simp
  rw [e] at hz
  simp only [c_common_divisor, f_common_divisor, evE_mv, evE_fr, evE_bo, evE_lit, evE_glb, evE_shr, evE_bin, evE_neg, evE_not, evE_and, evE_or, evE_cmp, evE_ix, evE_pth, evE_sl, evE_tup, evE_lst, evE_call, evE_bi, evE_isi, evE_pop, evE_lrv, evE_lrg, evEs_nil, evEs_cons, evEo_no, evEo_so, evC_no, evC_so, evIt_list, evIt_rg1, evIt_rg2, evIt_rg3, evIt_rev, evIt_zip, evIt_enum, evIt_str, evIt_brw, evIt_tupi, evS_asg, evS_unp, evS_par, evS_swp, evS_set1, evS_aug, evS_mut0, evS_ex, evS_ifs, evS_scn, evS_ret, evS_rse, evS_try1, evS_try2, evS_brk, evS_cnt, evS_pas, evS_kil, evSs_nil, evSs_cons, sq_nx, sq_rt, sq_bk, sq_ct, sq_ex, evS_whl, evS_frs, evE_lc, bnd, sbnd, obnd, raw, res, resL, rawL, valsL, anyBor, opBin, opCmp, opBi, biAbs, biInt, biStr, biLen, biList, biSum, biMax, biMin, biAll, Itr.bk, putBack, itemsOf, hkGo, boolsOf, opNeg, opNot, ixD, slD, litD, atom, isD, D.share, shareL, D.isHole, D.whole, wholeL, D.noOw, noOwL, D.noSh, noShL, stIx, owAt, asB, setTg, putE, mutD, mtAppend, mtExtend, mtPop, mtClear, mtInsert, kill, List.foldl_cons, List.foldl_nil, List.getElem?_cons_zero, List.getElem?_cons_succ, List.getElem?_nil, List.set_cons_zero, List.set_cons_succ, List.length_cons, List.length_nil, Bool.and_true, Bool.true_and, Bool.and_false, Bool.false_and, Bool.not_true, Bool.not_false, cond_true, cond_false, if_true, if_false, ite_true, ite_false, reduceIte, reduceCtorEq, Bool.false_eq_true, startE, List.replicate, List.append_eq, List.nil_append, List.cons_append, List.append_nil, fin, TV.atI0, TV.atI1, Option.bind_some, Option.map_some, Bool.and_self, Bool.or_self, Nat.reduceSub, Nat.reduceAdd, Nat.reduceEqDiff, Bool.not_eq_true, Bool.and_eq_true, decide_true, decide_false, real_eq_int, real_eq_bl, real_eq_non, real_eq_enc, real_eq_enc2, eqD_int, eqD_bl, eqD_pair, Int.reduceEq, Int.reduceToNat, Int.reduceLE, Int.reduceLT, nab10, nab2, castn0, castn1, castn2, castn3, castn4, castn5, Nat.reduceLT, and_self, and_true, true_and, and_false, false_and, if_pos trivial, not_true_eq_false, not_false_eq_true, Bool.or_true, Bool.or_false, Bool.true_or, Bool.false_or, hz]
theorem run_fraction (h : Has T f_common_divisor) (h2 : Has T f_fraction) (t b : Int) : run real exc glb T (n + 2) "fraction" [.int t, .int b] = if b = 0 then some (.ex "NoNumber") else some (.ok (enc (Rat.divInt t b))) := by
  rw [run_eq (f := "fraction") (d := f_fraction) h2 rfl]
  have hc := run_common_divisor (exc := exc) (glb := glb) (n := n) h t b
  by_cases hb : b = 0
  · subst hb
    simp only [c_fraction, f_fraction, evE_mv, evE_fr, evE_bo, evE_lit, evE_glb, evE_shr, evE_bin, evE_neg, evE_not, evE_and, evE_or, evE_cmp, evE_ix, evE_pth, evE_sl, evE_tup, evE_lst, evE_call, evE_bi, evE_isi, evE_pop, evE_lrv, evE_lrg, evEs_nil, evEs_cons, evEo_no, evEo_so, evC_no, evC_so, evIt_list, evIt_rg1, evIt_rg2, evIt_rg3, evIt_rev, evIt_zip, evIt_enum, evIt_str, evIt_brw, evIt_tupi, evS_asg, evS_unp, evS_par, evS_swp, evS_set1, evS_aug, evS_mut0, evS_ex, evS_ifs, evS_scn, evS_ret, evS_rse, evS_try1, evS_try2, evS_brk, evS_cnt, evS_pas, evS_kil, evSs_nil, evSs_cons, sq_nx, sq_rt, sq_bk, sq_ct, sq_ex, evS_whl, evS_frs, evE_lc, bnd, sbnd, obnd, raw, res, resL, rawL, valsL, anyBor, opBin, opCmp, opBi, biAbs, biInt, biStr, biLen, biList, biSum, biMax, biMin, biAll, Itr.bk, putBack, itemsOf, hkGo, boolsOf, opNeg, opNot, ixD, slD, litD, atom, isD, D.share, shareL, D.isHole, D.whole, wholeL, D.noOw, noOwL, D.noSh, noShL, stIx, owAt, asB, setTg, putE, mutD, mtAppend, mtExtend, mtPop, mtClear, mtInsert, kill, List.foldl_cons, List.foldl_nil, List.getElem?_cons_zero, List.getElem?_cons_succ, List.getElem?_nil, List.set_cons_zero, List.set_cons_succ, List.length_cons, List.length_nil, Bool.and_true, Bool.true_and, Bool.and_false, Bool.false_and, Bool.not_true, Bool.not_false, cond_true, cond_false, if_true, if_false, ite_true, ite_false, reduceIte, reduceCtorEq, Bool.false_eq_true, startE, List.replicate, List.append_eq, List.nil_append, List.cons_append, List.append_nil, fin, TV.atI0, TV.atI1, Option.bind_some, Option.map_some, Bool.and_self, Bool.or_self, Nat.reduceSub, Nat.reduceAdd, Nat.reduceEqDiff, Bool.not_eq_true, Bool.and_eq_true, decide_true, decide_false, real_eq_int, real_eq_bl, real_eq_non, real_eq_enc, real_eq_enc2, eqD_int, eqD_bl, eqD_pair, Int.reduceEq, Int.reduceToNat, Int.reduceLE, Int.reduceLT, nab10, nab2, castn0, castn1, castn2, castn3, castn4, castn5, Nat.reduceLT, and_self, and_true, true_and, and_false, false_and, if_pos trivial, not_true_eq_false, not_false_eq_true, Bool.or_true, Bool.or_false, Bool.true_or, Bool.false_or]
  · obtain ⟨k1, k2, k3⟩ := frac_core t b hb
    by_cases hn : b < 0
    · rw [if_pos hn] at k1 k2 k3
      simp only [c_fraction, f_fraction, evE_mv, evE_fr, evE_bo, evE_lit, evE_glb, evE_shr, evE_bin, evE_neg, evE_not, evE_and, evE_or, evE_cmp, evE_ix, evE_pth, evE_sl, evE_tup, evE_lst, evE_call, evE_bi, evE_isi, evE_pop, evE_lrv, evE_lrg, evEs_nil, evEs_cons, evEo_no, evEo_so, evC_no, evC_so, evIt_list, evIt_rg1, evIt_rg2, evIt_rg3, evIt_rev, evIt_zip, evIt_enum, evIt_str, evIt_brw, evIt_tupi, evS_asg, evS_unp, evS_par, evS_swp, evS_set1, evS_aug, evS_mut0, evS_ex, evS_ifs, evS_scn, evS_ret, evS_rse, evS_try1, evS_try2, evS_brk, evS_cnt, evS_pas, evS_kil, evSs_nil, evSs_cons, sq_nx, sq_rt, sq_bk, sq_ct, sq_ex, evS_whl, evS_frs, evE_lc, bnd, sbnd, obnd, raw, res, resL, rawL, valsL, anyBor, opBin, opCmp, opBi, biAbs, biInt, biStr, biLen, biList, biSum, biMax, biMin, biAll, Itr.bk, putBack, itemsOf, hkGo, boolsOf, opNeg, opNot, ixD, slD, litD, atom, isD, D.share, shareL, D.isHole, D.whole, wholeL, D.noOw, noOwL, D.noSh, noShL, stIx, owAt, asB, setTg, putE, mutD, mtAppend, mtExtend, mtPop, mtClear, mtInsert, kill, List.foldl_cons, List.foldl_nil, List.getElem?_cons_zero, List.getElem?_cons_succ, List.getElem?_nil, List.set_cons_zero, List.set_cons_succ, List.length_cons, List.length_nil, Bool.and_true, Bool.true_and, Bool.and_false, Bool.false_and, Bool.not_true, Bool.not_false, cond_true, cond_false, if_true, if_false, ite_true, ite_false, reduceIte, reduceCtorEq, Bool.false_eq_true, startE, List.replicate, List.append_eq, List.nil_append, List.cons_append, List.append_nil, fin, TV.atI0, TV.atI1, Option.bind_some, Option.map_some, Bool.and_self, Bool.or_self, Nat.reduceSub, Nat.reduceAdd, Nat.reduceEqDiff, Bool.not_eq_true, Bool.and_eq_true, decide_true, decide_false, real_eq_int, real_eq_bl, real_eq_non, real_eq_enc, real_eq_enc2, eqD_int, eqD_bl, eqD_pair, Int.reduceEq, Int.reduceToNat, Int.reduceLE, Int.reduceLT, nab10, nab2, castn0, castn1, castn2, castn3, castn4, castn5, Nat.reduceLT, and_self, and_true, true_and, and_false, false_and, if_pos trivial, not_true_eq_false, not_false_eq_true, Bool.or_true, Bool.or_false, Bool.true_or, Bool.false_or, hb, hc, hn, k1, k2, k3, enc]
    · rw [if_neg hn] at k1 k2 k3
      simp only [c_fraction, f_fraction, evE_mv, evE_fr, evE_bo, evE_lit, evE_glb, evE_shr, evE_bin, evE_neg, evE_not, evE_and, evE_or, evE_cmp, evE_ix, evE_pth, evE_sl, evE_tup, evE_lst, evE_call, evE_bi, evE_isi, evE_pop, evE_lrv, evE_lrg, evEs_nil, evEs_cons, evEo_no, evEo_so, evC_no, evC_so, evIt_list, evIt_rg1, evIt_rg2, evIt_rg3, evIt_rev, evIt_zip, evIt_enum, evIt_str, evIt_brw, evIt_tupi, evS_asg, evS_unp, evS_par, evS_swp, evS_set1, evS_aug, evS_mut0, evS_ex, evS_ifs, evS_scn, evS_ret, evS_rse, evS_try1, evS_try2, evS_brk, evS_cnt, evS_pas, evS_kil, evSs_nil, evSs_cons, sq_nx, sq_rt, sq_bk, sq_ct, sq_ex, evS_whl, evS_frs, evE_lc, bnd, sbnd, obnd, raw, res, resL, rawL, valsL, anyBor, opBin, opCmp, opBi, biAbs, biInt, biStr, biLen, biList, biSum, biMax, biMin, biAll, Itr.bk, putBack, itemsOf, hkGo, boolsOf, opNeg, opNot, ixD, slD, litD, atom, isD, D.share, shareL, D.isHole, D.whole, wholeL, D.noOw, noOwL, D.noSh, noShL, stIx, owAt, asB, setTg, putE, mutD, mtAppend, mtExtend, mtPop, mtClear, mtInsert, kill, List.foldl_cons, List.foldl_nil, List.getElem?_cons_zero, List.getElem?_cons_succ, List.getElem?_nil, List.set_cons_zero, List.set_cons_succ, List.length_cons, List.length_nil, Bool.and_true, Bool.true_and, Bool.and_false, Bool.false_and, Bool.not_true, Bool.not_false, cond_true, cond_false, if_true, if_false, ite_true, ite_false, reduceIte, reduceCtorEq, Bool.false_eq_true, startE, List.replicate, List.append_eq, List.nil_append, List.cons_append, List.append_nil, fin, TV.atI0, TV.atI1, Option.bind_some, Option.map_some, Bool.and_self, Bool.or_self, Nat.reduceSub, Nat.reduceAdd, Nat.reduceEqDiff, Bool.not_eq_true, Bool.and_eq_true, decide_true, decide_false, real_eq_int, real_eq_bl, real_eq_non, real_eq_enc, real_eq_enc2, eqD_int, eqD_bl, eqD_pair, Int.reduceEq, Int.reduceToNat, Int.reduceLE, Int.reduceLT, nab10, nab2, castn0, castn1, castn2, castn3, castn4, castn5, Nat.reduceLT, and_self, and_true, true_and, and_false, false_and, if_pos trivial, not_true_eq_false, not_false_eq_true, Bool.or_true, Bool.or_false, Bool.true_or, Bool.false_or, hb, hc, hn, k1, k2, k3, enc]
def Rb (n : Nat) (q : Rat) : Prop := Bd n q.num ∧ Bd n (q.den : Int)
theorem Rb.mono {n m : Nat} {q : Rat} (h : Rb n q) (hm : n ≤ m) : Rb m q := ⟨h.1.mono hm, h.2.mono hm⟩
theorem Rb.divInt {n : Nat} {t b : Int} (ht : Bd n t) (hb : Bd n b) (h : b ≠ 0) : Rb n (Rat.divInt t b) := ⟨ht.num h, hb.den h⟩
theorem rat_eq (q : Rat) : q = Rat.divInt q.num q.den := (Rat.num_divInt_den q).symm
theorem den_ne (q : Rat) : ((q.den : Nat) : Int) ≠ 0 := by have := q.den_nz; omega
theorem add_divInt (p q : Rat) : Rat.divInt (p.num * q.den + q.num * p.den) (p.den * q.den) = p + q := by
  rw [← Rat.divInt_add_divInt _ _ (den_ne p) (den_ne q), ← rat_eq, ← rat_eq]
theorem sub_divInt (p q : Rat) : Rat.divInt (p.num * q.den - q.num * p.den) (p.den * q.den) = p - q := by
  rw [← Rat.divInt_sub_divInt _ _ (den_ne p) (den_ne q), ← rat_eq, ← rat_eq]
theorem mul_divInt (p q : Rat) : Rat.divInt (p.num * q.num) (p.den * q.den) = p * q := by
  rw [← Rat.divInt_mul_divInt, ← rat_eq, ← rat_eq]
theorem div_divInt (p q : Rat) : Rat.divInt (p.num * q.den) (p.den * q.num) = p / q := by
  rw [← Rat.divInt_mul_divInt, ← rat_eq, Rat.div_def, Rat.inv_def]
theorem den_mul_ne (p q : Rat) : ((p.den : Int) * q.den) ≠ 0 := Int.mul_ne_zero (den_ne p) (den_ne q)
theorem Rb.add {n m : Nat} {p q : Rat} (h : Rb n p) (h' : Rb m q) : Rb (n + m + 1) (p + q) := by
  rw [← add_divInt]
  exact Rb.divInt (((h.1.mul h'.2).add (h'.1.mul h.2)).mono (by omega)) ((h.2.mul h'.2).mono (by omega)) (den_mul_ne p q)
theorem Rb.sub {n m : Nat} {p q : Rat} (h : Rb n p) (h' : Rb m q) : Rb (n + m + 1) (p - q) := by
  rw [← sub_divInt]
  exact Rb.divInt (((h.1.mul h'.2).sub (h'.1.mul h.2)).mono (by omega)) ((h.2.mul h'.2).mono (by omega)) (den_mul_ne p q)
theorem Rb.mul {n m : Nat} {p q : Rat} (h : Rb n p) (h' : Rb m q) : Rb (n + m) (p * q) := by
  rw [← mul_divInt]
  exact Rb.divInt (h.1.mul h'.1) (h.2.mul h'.2) (den_mul_ne p q)
theorem num_ne {q : Rat} (h : q ≠ 0) : q.num ≠ 0 := fun z => h (Rat.num_eq_zero.mp z)
theorem Rb.div {n m : Nat} {p q : Rat} (h : Rb n p) (h' : Rb m q) : Rb (n + m) (p / q) := by
  by_cases h0 : q = 0
  · subst h0
    rw [Rat.div_def, Rat.inv_zero, Rat.mul_zero]
    exact ⟨Nat.pow_pos (by decide), by
      show (1 : Int).natAbs < 2 ^ (n + m)
      have h2 := h.2
      unfold Bd at h2
      have := p.den_pos
      have h3 : 1 < 2 ^ n := by omega
      exact Nat.lt_of_lt_of_le h3 (Nat.pow_le_pow_right (by decide) (by omega))⟩
  · rw [← div_divInt]
    exact Rb.divInt (h.1.mul h'.2) (h.2.mul h'.1) (Int.mul_ne_zero (den_ne p) (num_ne h0))
theorem Rb.neg {n : Nat} {p : Rat} (h : Rb n p) : Rb n (-p) := ⟨by rw [Rat.neg_num]; exact h.1.neg, by rw [Rat.neg_den]; exact h.2⟩
variable (hc : Has T f_common_divisor) (hf : Has T f_fraction)
include hc hf
theorem run_plus (h : Has T f_plus) {a b : Nat} {p q : Rat} (hp : Rb a p) (hq : Rb b q) (hs : a + b ≤ 2 ^ 26) : run real exc glb T (n + 3) "plus" [enc p, enc q] = some (.ok (enc (p + q))) := by
  rw [run_eq (f := "plus") (d := f_plus) h rfl]
  have e := run_fraction (exc := exc) (glb := glb) (n := n) hc hf (p.num * q.den + q.num * p.den) (p.den * q.den)
  rw [if_neg (den_mul_ne p q), add_divInt] at e
  have m1 : real.mul p.num q.den = true := mul_real hp.1 hq.2 hs
  have m2 : real.mul q.num p.den = true := mul_real hq.1 hp.2 (by omega)
  have m3 : real.mul p.den q.den = true := mul_real hp.2 hq.2 hs
  unfold enc at *
  simp only [c_plus, f_plus, evE_mv, evE_fr, evE_bo, evE_lit, evE_glb, evE_shr, evE_bin, evE_neg, evE_not, evE_and, evE_or, evE_cmp, evE_ix, evE_pth, evE_sl, evE_tup, evE_lst, evE_call, evE_bi, evE_isi, evE_pop, evE_lrv, evE_lrg, evEs_nil, evEs_cons, evEo_no, evEo_so, evC_no, evC_so, evIt_list, evIt_rg1, evIt_rg2, evIt_rg3, evIt_rev, evIt_zip, evIt_enum, evIt_str, evIt_brw, evIt_tupi, evS_asg, evS_unp, evS_par, evS_swp, evS_set1, evS_aug, evS_mut0, evS_ex, evS_ifs, evS_scn, evS_ret, evS_rse, evS_try1, evS_try2, evS_brk, evS_cnt, evS_pas, evS_kil, evSs_nil, evSs_cons, sq_nx, sq_rt, sq_bk, sq_ct, sq_ex, evS_whl, evS_frs, evE_lc, bnd, sbnd, obnd, raw, res, resL, rawL, valsL, anyBor, opBin, opCmp, opBi, biAbs, biInt, biStr, biLen, biList, biSum, biMax, biMin, biAll, Itr.bk, putBack, itemsOf, hkGo, boolsOf, opNeg, opNot, ixD, slD, litD, atom, isD, D.share, shareL, D.isHole, D.whole, wholeL, D.noOw, noOwL, D.noSh, noShL, stIx, owAt, asB, setTg, putE, mutD, mtAppend, mtExtend, mtPop, mtClear, mtInsert, kill, List.foldl_cons, List.foldl_nil, List.getElem?_cons_zero, List.getElem?_cons_succ, List.getElem?_nil, List.set_cons_zero, List.set_cons_succ, List.length_cons, List.length_nil, Bool.and_true, Bool.true_and, Bool.and_false, Bool.false_and, Bool.not_true, Bool.not_false, cond_true, cond_false, if_true, if_false, ite_true, ite_false, reduceIte, reduceCtorEq, Bool.false_eq_true, startE, List.replicate, List.append_eq, List.nil_append, List.cons_append, List.append_nil, fin, TV.atI0, TV.atI1, Option.bind_some, Option.map_some, Bool.and_self, Bool.or_self, Nat.reduceSub, Nat.reduceAdd, Nat.reduceEqDiff, Bool.not_eq_true, Bool.and_eq_true, decide_true, decide_false, real_eq_int, real_eq_bl, real_eq_non, real_eq_enc, real_eq_enc2, eqD_int, eqD_bl, eqD_pair, Int.reduceEq, Int.reduceToNat, Int.reduceLE, Int.reduceLT, nab10, nab2, castn0, castn1, castn2, castn3, castn4, castn5, Nat.reduceLT, and_self, and_true, true_and, and_false, false_and, if_pos trivial, not_true_eq_false, not_false_eq_true, Bool.or_true, Bool.or_false, Bool.true_or, Bool.false_or, m1, m2, m3, e]
theorem run_minus (h : Has T f_minus) {a b : Nat} {p q : Rat} (hp : Rb a p) (hq : Rb b q) (hs : a + b ≤ 2 ^ 26) : run real exc glb T (n + 3) "minus" [enc p, enc q] = some (.ok (enc (p - q))) := by
  rw [run_eq (f := "minus") (d := f_minus) h rfl]
  have e := run_fraction (exc := exc) (glb := glb) (n := n) hc hf (p.num * q.den - q.num * p.den) (p.den * q.den)
  rw [if_neg (den_mul_ne p q), sub_divInt] at e
  have m1 : real.mul p.num q.den = true := mul_real hp.1 hq.2 hs
  have m2 : real.mul q.num p.den = true := mul_real hq.1 hp.2 (by omega)
  have m3 : real.mul p.den q.den = true := mul_real hp.2 hq.2 hs
  unfold enc at *
  simp only [c_minus, f_minus, evE_mv, evE_fr, evE_bo, evE_lit, evE_glb, evE_shr, evE_bin, evE_neg, evE_not, evE_and, evE_or, evE_cmp, evE_ix, evE_pth, evE_sl, evE_tup, evE_lst, evE_call, evE_bi, evE_isi, evE_pop, evE_lrv, evE_lrg, evEs_nil, evEs_cons, evEo_no, evEo_so, evC_no, evC_so, evIt_list, evIt_rg1, evIt_rg2, evIt_rg3, evIt_rev, evIt_zip, evIt_enum, evIt_str, evIt_brw, evIt_tupi, evS_asg, evS_unp, evS_par, evS_swp, evS_set1, evS_aug, evS_mut0, evS_ex, evS_ifs, evS_scn, evS_ret, evS_rse, evS_try1, evS_try2, evS_brk, evS_cnt, evS_pas, evS_kil, evSs_nil, evSs_cons, sq_nx, sq_rt, sq_bk, sq_ct, sq_ex, evS_whl, evS_frs, evE_lc, bnd, sbnd, obnd, raw, res, resL, rawL, valsL, anyBor, opBin, opCmp, opBi, biAbs, biInt, biStr, biLen, biList, biSum, biMax, biMin, biAll, Itr.bk, putBack, itemsOf, hkGo, boolsOf, opNeg, opNot, ixD, slD, litD, atom, isD, D.share, shareL, D.isHole, D.whole, wholeL, D.noOw, noOwL, D.noSh, noShL, stIx, owAt, asB, setTg, putE, mutD, mtAppend, mtExtend, mtPop, mtClear, mtInsert, kill, List.foldl_cons, List.foldl_nil, List.getElem?_cons_zero, List.getElem?_cons_succ, List.getElem?_nil, List.set_cons_zero, List.set_cons_succ, List.length_cons, List.length_nil, Bool.and_true, Bool.true_and, Bool.and_false, Bool.false_and, Bool.not_true, Bool.not_false, cond_true, cond_false, if_true, if_false, ite_true, ite_false, reduceIte, reduceCtorEq, Bool.false_eq_true, startE, List.replicate, List.append_eq, List.nil_append, List.cons_append, List.append_nil, fin, TV.atI0, TV.atI1, Option.bind_some, Option.map_some, Bool.and_self, Bool.or_self, Nat.reduceSub, Nat.reduceAdd, Nat.reduceEqDiff, Bool.not_eq_true, Bool.and_eq_true, decide_true, decide_false, real_eq_int, real_eq_bl, real_eq_non, real_eq_enc, real_eq_enc2, eqD_int, eqD_bl, eqD_pair, Int.reduceEq, Int.reduceToNat, Int.reduceLE, Int.reduceLT, nab10, nab2, castn0, castn1, castn2, castn3, castn4, castn5, Nat.reduceLT, and_self, and_true, true_and, and_false, false_and, if_pos trivial, not_true_eq_false, not_false_eq_true, Bool.or_true, Bool.or_false, Bool.true_or, Bool.false_or, m1, m2, m3, e]
theorem run_product (h : Has T f_product) {a b : Nat} {p q : Rat} (hp : Rb a p) (hq : Rb b q) (hs : a + b ≤ 2 ^ 26) : run real exc glb T (n + 3) "product" [enc p, enc q] = some (.ok (enc (p * q))) := by
  rw [run_eq (f := "product") (d := f_product) h rfl]
  have e := run_fraction (exc := exc) (glb := glb) (n := n) hc hf (p.num * q.num) (p.den * q.den)
  rw [if_neg (den_mul_ne p q), mul_divInt] at e
  have m1 : real.mul p.num q.num = true := mul_real hp.1 hq.1 hs
  have m3 : real.mul p.den q.den = true := mul_real hp.2 hq.2 hs
  unfold enc at *
  simp only [c_product, f_product, evE_mv, evE_fr, evE_bo, evE_lit, evE_glb, evE_shr, evE_bin, evE_neg, evE_not, evE_and, evE_or, evE_cmp, evE_ix, evE_pth, evE_sl, evE_tup, evE_lst, evE_call, evE_bi, evE_isi, evE_pop, evE_lrv, evE_lrg, evEs_nil, evEs_cons, evEo_no, evEo_so, evC_no, evC_so, evIt_list, evIt_rg1, evIt_rg2, evIt_rg3, evIt_rev, evIt_zip, evIt_enum, evIt_str, evIt_brw, evIt_tupi, evS_asg, evS_unp, evS_par, evS_swp, evS_set1, evS_aug, evS_mut0, evS_ex, evS_ifs, evS_scn, evS_ret, evS_rse, evS_try1, evS_try2, evS_brk, evS_cnt, evS_pas, evS_kil, evSs_nil, evSs_cons, sq_nx, sq_rt, sq_bk, sq_ct, sq_ex, evS_whl, evS_frs, evE_lc, bnd, sbnd, obnd, raw, res, resL, rawL, valsL, anyBor, opBin, opCmp, opBi, biAbs, biInt, biStr, biLen, biList, biSum, biMax, biMin, biAll, Itr.bk, putBack, itemsOf, hkGo, boolsOf, opNeg, opNot, ixD, slD, litD, atom, isD, D.share, shareL, D.isHole, D.whole, wholeL, D.noOw, noOwL, D.noSh, noShL, stIx, owAt, asB, setTg, putE, mutD, mtAppend, mtExtend, mtPop, mtClear, mtInsert, kill, List.foldl_cons, List.foldl_nil, List.getElem?_cons_zero, List.getElem?_cons_succ, List.getElem?_nil, List.set_cons_zero, List.set_cons_succ, List.length_cons, List.length_nil, Bool.and_true, Bool.true_and, Bool.and_false, Bool.false_and, Bool.not_true, Bool.not_false, cond_true, cond_false, if_true, if_false, ite_true, ite_false, reduceIte, reduceCtorEq, Bool.false_eq_true, startE, List.replicate, List.append_eq, List.nil_append, List.cons_append, List.append_nil, fin, TV.atI0, TV.atI1, Option.bind_some, Option.map_some, Bool.and_self, Bool.or_self, Nat.reduceSub, Nat.reduceAdd, Nat.reduceEqDiff, Bool.not_eq_true, Bool.and_eq_true, decide_true, decide_false, real_eq_int, real_eq_bl, real_eq_non, real_eq_enc, real_eq_enc2, eqD_int, eqD_bl, eqD_pair, Int.reduceEq, Int.reduceToNat, Int.reduceLE, Int.reduceLT, nab10, nab2, castn0, castn1, castn2, castn3, castn4, castn5, Nat.reduceLT, and_self, and_true, true_and, and_false, false_and, if_pos trivial, not_true_eq_false, not_false_eq_true, Bool.or_true, Bool.or_false, Bool.true_or, Bool.false_or, m1, m3, e]
theorem run_quotient (h : Has T f_quotient) {a b : Nat} {p q : Rat} (hp : Rb a p) (hq : Rb b q) (hs : a + b ≤ 2 ^ 26) : run real exc glb T (n + 3) "quotient" [enc p, enc q] = if q = 0 then some (.ex "NoNumber") else some (.ok (enc (p / q))) := by
  rw [run_eq (f := "quotient") (d := f_quotient) h rfl]
  have e := run_fraction (exc := exc) (glb := glb) (n := n) hc hf (p.num * q.den) (p.den * q.num)
  have m1 : real.mul p.num q.den = true := mul_real hp.1 hq.2 hs
  have m2 : real.mul p.den q.num = true := mul_real hp.2 hq.1 hs
  by_cases h0 : q = 0
  · have z : (p.den : Int) * q.num = 0 := by rw [h0]; simp
    rw [if_pos z] at e
    rw [if_pos h0]
    unfold enc at *
    simp only [c_quotient, f_quotient, evE_mv, evE_fr, evE_bo, evE_lit, evE_glb, evE_shr, evE_bin, evE_neg, evE_not, evE_and, evE_or, evE_cmp, evE_ix, evE_pth, evE_sl, evE_tup, evE_lst, evE_call, evE_bi, evE_isi, evE_pop, evE_lrv, evE_lrg, evEs_nil, evEs_cons, evEo_no, evEo_so, evC_no, evC_so, evIt_list, evIt_rg1, evIt_rg2, evIt_rg3, evIt_rev, evIt_zip, evIt_enum, evIt_str, evIt_brw, evIt_tupi, evS_asg, evS_unp, evS_par, evS_swp, evS_set1, evS_aug, evS_mut0, evS_ex, evS_ifs, evS_scn, evS_ret, evS_rse, evS_try1, evS_try2, evS_brk, evS_cnt, evS_pas, evS_kil, evSs_nil, evSs_cons, sq_nx, sq_rt, sq_bk, sq_ct, sq_ex, evS_whl, evS_frs, evE_lc, bnd, sbnd, obnd, raw, res, resL, rawL, valsL, anyBor, opBin, opCmp, opBi, biAbs, biInt, biStr, biLen, biList, biSum, biMax, biMin, biAll, Itr.bk, putBack, itemsOf, hkGo, boolsOf, opNeg, opNot, ixD, slD, litD, atom, isD, D.share, shareL, D.isHole, D.whole, wholeL, D.noOw, noOwL, D.noSh, noShL, stIx, owAt, asB, setTg, putE, mutD, mtAppend, mtExtend, mtPop, mtClear, mtInsert, kill, List.foldl_cons, List.foldl_nil, List.getElem?_cons_zero, List.getElem?_cons_succ, List.getElem?_nil, List.set_cons_zero, List.set_cons_succ, List.length_cons, List.length_nil, Bool.and_true, Bool.true_and, Bool.and_false, Bool.false_and, Bool.not_true, Bool.not_false, cond_true, cond_false, if_true, if_false, ite_true, ite_false, reduceIte, reduceCtorEq, Bool.false_eq_true, startE, List.replicate, List.append_eq, List.nil_append, List.cons_append, List.append_nil, fin, TV.atI0, TV.atI1, Option.bind_some, Option.map_some, Bool.and_self, Bool.or_self, Nat.reduceSub, Nat.reduceAdd, Nat.reduceEqDiff, Bool.not_eq_true, Bool.and_eq_true, decide_true, decide_false, real_eq_int, real_eq_bl, real_eq_non, real_eq_enc, real_eq_enc2, eqD_int, eqD_bl, eqD_pair, Int.reduceEq, Int.reduceToNat, Int.reduceLE, Int.reduceLT, nab10, nab2, castn0, castn1, castn2, castn3, castn4, castn5, Nat.reduceLT, and_self, and_true, true_and, and_false, false_and, if_pos trivial, not_true_eq_false, not_false_eq_true, Bool.or_true, Bool.or_false, Bool.true_or, Bool.false_or, m1, m2, e]
  · rw [if_neg (Int.mul_ne_zero (den_ne p) (num_ne h0)), div_divInt] at e
    rw [if_neg h0]
    unfold enc at *
    simp only [c_quotient, f_quotient, evE_mv, evE_fr, evE_bo, evE_lit, evE_glb, evE_shr, evE_bin, evE_neg, evE_not, evE_and, evE_or, evE_cmp, evE_ix, evE_pth, evE_sl, evE_tup, evE_lst, evE_call, evE_bi, evE_isi, evE_pop, evE_lrv, evE_lrg, evEs_nil, evEs_cons, evEo_no, evEo_so, evC_no, evC_so, evIt_list, evIt_rg1, evIt_rg2, evIt_rg3, evIt_rev, evIt_zip, evIt_enum, evIt_str, evIt_brw, evIt_tupi, evS_asg, evS_unp, evS_par, evS_swp, evS_set1, evS_aug, evS_mut0, evS_ex, evS_ifs, evS_scn, evS_ret, evS_rse, evS_try1, evS_try2, evS_brk, evS_cnt, evS_pas, evS_kil, evSs_nil, evSs_cons, sq_nx, sq_rt, sq_bk, sq_ct, sq_ex, evS_whl, evS_frs, evE_lc, bnd, sbnd, obnd, raw, res, resL, rawL, valsL, anyBor, opBin, opCmp, opBi, biAbs, biInt, biStr, biLen, biList, biSum, biMax, biMin, biAll, Itr.bk, putBack, itemsOf, hkGo, boolsOf, opNeg, opNot, ixD, slD, litD, atom, isD, D.share, shareL, D.isHole, D.whole, wholeL, D.noOw, noOwL, D.noSh, noShL, stIx, owAt, asB, setTg, putE, mutD, mtAppend, mtExtend, mtPop, mtClear, mtInsert, kill, List.foldl_cons, List.foldl_nil, List.getElem?_cons_zero, List.getElem?_cons_succ, List.getElem?_nil, List.set_cons_zero, List.set_cons_succ, List.length_cons, List.length_nil, Bool.and_true, Bool.true_and, Bool.and_false, Bool.false_and, Bool.not_true, Bool.not_false, cond_true, cond_false, if_true, if_false, ite_true, ite_false, reduceIte, reduceCtorEq, Bool.false_eq_true, startE, List.replicate, List.append_eq, List.nil_append, List.cons_append, List.append_nil, fin, TV.atI0, TV.atI1, Option.bind_some, Option.map_some, Bool.and_self, Bool.or_self, Nat.reduceSub, Nat.reduceAdd, Nat.reduceEqDiff, Bool.not_eq_true, Bool.and_eq_true, decide_true, decide_false, real_eq_int, real_eq_bl, real_eq_non, real_eq_enc, real_eq_enc2, eqD_int, eqD_bl, eqD_pair, Int.reduceEq, Int.reduceToNat, Int.reduceLE, Int.reduceLT, nab10, nab2, castn0, castn1, castn2, castn3, castn4, castn5, Nat.reduceLT, and_self, and_true, true_and, and_false, false_and, if_pos trivial, not_true_eq_false, not_false_eq_true, Bool.or_true, Bool.or_false, Bool.true_or, Bool.false_or, m1, m2, e]
omit hc hf
theorem run_is_less (h : Has T f_is_less) {a b : Nat} {p q : Rat} (hp : Rb a p) (hq : Rb b q) (hs : a + b ≤ 2 ^ 26) : run real exc glb T (n + 1) "is_less" [enc p, enc q] = some (.ok (.bl (decide (p < q)))) := by
  rw [run_eq (f := "is_less") (d := f_is_less) h rfl]
  have m1 : real.mul p.num q.den = true := mul_real hp.1 hq.2 hs
  have m2 : real.mul q.num p.den = true := mul_real hq.1 hp.2 (by omega)
  have e : decide (p < q) = decide (p.num * q.den < q.num * p.den) := decide_eq_decide.mpr (Rat.lt_iff p q)
  rw [e]
  unfold enc at *
  simp only [c_is_less, f_is_less, evE_mv, evE_fr, evE_bo, evE_lit, evE_glb, evE_shr, evE_bin, evE_neg, evE_not, evE_and, evE_or, evE_cmp, evE_ix, evE_pth, evE_sl, evE_tup, evE_lst, evE_call, evE_bi, evE_isi, evE_pop, evE_lrv, evE_lrg, evEs_nil, evEs_cons, evEo_no, evEo_so, evC_no, evC_so, evIt_list, evIt_rg1, evIt_rg2, evIt_rg3, evIt_rev, evIt_zip, evIt_enum, evIt_str, evIt_brw, evIt_tupi, evS_asg, evS_unp, evS_par, evS_swp, evS_set1, evS_aug, evS_mut0, evS_ex, evS_ifs, evS_scn, evS_ret, evS_rse, evS_try1, evS_try2, evS_brk, evS_cnt, evS_pas, evS_kil, evSs_nil, evSs_cons, sq_nx, sq_rt, sq_bk, sq_ct, sq_ex, evS_whl, evS_frs, evE_lc, bnd, sbnd, obnd, raw, res, resL, rawL, valsL, anyBor, opBin, opCmp, opBi, biAbs, biInt, biStr, biLen, biList, biSum, biMax, biMin, biAll, Itr.bk, putBack, itemsOf, hkGo, boolsOf, opNeg, opNot, ixD, slD, litD, atom, isD, D.share, shareL, D.isHole, D.whole, wholeL, D.noOw, noOwL, D.noSh, noShL, stIx, owAt, asB, setTg, putE, mutD, mtAppend, mtExtend, mtPop, mtClear, mtInsert, kill, List.foldl_cons, List.foldl_nil, List.getElem?_cons_zero, List.getElem?_cons_succ, List.getElem?_nil, List.set_cons_zero, List.set_cons_succ, List.length_cons, List.length_nil, Bool.and_true, Bool.true_and, Bool.and_false, Bool.false_and, Bool.not_true, Bool.not_false, cond_true, cond_false, if_true, if_false, ite_true, ite_false, reduceIte, reduceCtorEq, Bool.false_eq_true, startE, List.replicate, List.append_eq, List.nil_append, List.cons_append, List.append_nil, fin, TV.atI0, TV.atI1, Option.bind_some, Option.map_some, Bool.and_self, Bool.or_self, Nat.reduceSub, Nat.reduceAdd, Nat.reduceEqDiff, Bool.not_eq_true, Bool.and_eq_true, decide_true, decide_false, real_eq_int, real_eq_bl, real_eq_non, real_eq_enc, real_eq_enc2, eqD_int, eqD_bl, eqD_pair, Int.reduceEq, Int.reduceToNat, Int.reduceLE, Int.reduceLT, nab10, nab2, castn0, castn1, castn2, castn3, castn4, castn5, Nat.reduceLT, and_self, and_true, true_and, and_false, false_and, if_pos trivial, not_true_eq_false, not_false_eq_true, Bool.or_true, Bool.or_false, Bool.true_or, Bool.false_or, m1, m2]
theorem abs_enc (p : Rat) : enc p.abs = .tup [.int (if p.num < 0 then -p.num else p.num), .int p.den] := by
  unfold Rat.abs enc
  by_cases h : 0 ≤ p
  · have := Rat.num_nonneg.mpr h
    rw [if_pos h, if_neg (by omega)]
  · have : ¬ 0 ≤ p.num := fun z => h (Rat.num_nonneg.mp z)
    rw [if_neg h, if_pos (by omega), Rat.neg_num, Rat.neg_den]
theorem run_size_of (h : Has T f_size_of) (p : Rat) : run real exc glb T (n + 1) "size_of" [enc p] = some (.ok (enc p.abs)) := by
  rw [run_eq (f := "size_of") (d := f_size_of) h rfl, abs_enc]
  unfold enc
  simp only [c_size_of, f_size_of, evE_mv, evE_fr, evE_bo, evE_lit, evE_glb, evE_shr, evE_bin, evE_neg, evE_not, evE_and, evE_or, evE_cmp, evE_ix, evE_pth, evE_sl, evE_tup, evE_lst, evE_call, evE_bi, evE_isi, evE_pop, evE_lrv, evE_lrg, evEs_nil, evEs_cons, evEo_no, evEo_so, evC_no, evC_so, evIt_list, evIt_rg1, evIt_rg2, evIt_rg3, evIt_rev, evIt_zip, evIt_enum, evIt_str, evIt_brw, evIt_tupi, evS_asg, evS_unp, evS_par, evS_swp, evS_set1, evS_aug, evS_mut0, evS_ex, evS_ifs, evS_scn, evS_ret, evS_rse, evS_try1, evS_try2, evS_brk, evS_cnt, evS_pas, evS_kil, evSs_nil, evSs_cons, sq_nx, sq_rt, sq_bk, sq_ct, sq_ex, evS_whl, evS_frs, evE_lc, bnd, sbnd, obnd, raw, res, resL, rawL, valsL, anyBor, opBin, opCmp, opBi, biAbs, biInt, biStr, biLen, biList, biSum, biMax, biMin, biAll, Itr.bk, putBack, itemsOf, hkGo, boolsOf, opNeg, opNot, ixD, slD, litD, atom, isD, D.share, shareL, D.isHole, D.whole, wholeL, D.noOw, noOwL, D.noSh, noShL, stIx, owAt, asB, setTg, putE, mutD, mtAppend, mtExtend, mtPop, mtClear, mtInsert, kill, List.foldl_cons, List.foldl_nil, List.getElem?_cons_zero, List.getElem?_cons_succ, List.getElem?_nil, List.set_cons_zero, List.set_cons_succ, List.length_cons, List.length_nil, Bool.and_true, Bool.true_and, Bool.and_false, Bool.false_and, Bool.not_true, Bool.not_false, cond_true, cond_false, if_true, if_false, ite_true, ite_false, reduceIte, reduceCtorEq, Bool.false_eq_true, startE, List.replicate, List.append_eq, List.nil_append, List.cons_append, List.append_nil, fin, TV.atI0, TV.atI1, Option.bind_some, Option.map_some, Bool.and_self, Bool.or_self, Nat.reduceSub, Nat.reduceAdd, Nat.reduceEqDiff, Bool.not_eq_true, Bool.and_eq_true, decide_true, decide_false, real_eq_int, real_eq_bl, real_eq_non, real_eq_enc, real_eq_enc2, eqD_int, eqD_bl, eqD_pair, Int.reduceEq, Int.reduceToNat, Int.reduceLE, Int.reduceLT, nab10, nab2, castn0, castn1, castn2, castn3, castn4, castn5, Nat.reduceLT, and_self, and_true, true_and, and_false, false_and, if_pos trivial, not_true_eq_false, not_false_eq_true, Bool.or_true, Bool.or_false, Bool.true_or, Bool.false_or]
theorem Rb.abs {n : Nat} {p : Rat} (h : Rb n p) : Rb n p.abs := by
  unfold Rat.abs
  split
  · exact h
  · exact h.neg
theorem noOwL_encs : ∀ l : List Rat, noOwL (l.map enc) = true
  | [] => rfl
  | _ :: l => by rw [List.map_cons, noOwL, noOwL_encs l]; rfl
theorem noShL_encs : ∀ l : List Rat, noShL (l.map enc) = true
  | [] => rfl
  | _ :: l => by rw [List.map_cons, noShL, noShL_encs l]; rfl
theorem wholeL_encs : ∀ l : List Rat, wholeL (l.map enc) = true
  | [] => rfl
  | _ :: l => by rw [List.map_cons, wholeL, wholeL_encs l]; rfl
theorem shareL_encs (l : List Rat) : shareL (l.map enc) = l.map enc := shareL_id (noOwL_encs l)
theorem atI_encs (l : List Rat) (k : Nat) (h : k < l.length) : atI (l.map enc) (k : Int) = some (enc (l.getD k 0)) := by
  rw [atI_nat, List.getElem?_map, List.getD_eq_getElem?_getD, List.getElem?_eq_getElem h]; rfl
theorem noOw_enc (q : Rat) : (enc q).noOw = true := rfl
theorem share_enc (q : Rat) : (enc q).share = enc q := rfl
def sumQ (qs : List Rat) : Rat := qs.foldl (fun a q => a + q) 0
def maxQ : List Rat → Rat
  | [] => 0
  | q :: qs => (q :: qs).foldl (fun a q => if a < q then q else a) q
def minQ : List Rat → Rat
  | [] => 0
  | q :: qs => (q :: qs).foldl (fun a q => if q < a then q else a) q
/-- a loop over a list of things -/
theorem loop_all {C : Ctx} {tg : Tg} {b : Ss} {α β : Type} (g : β → D) (mk : α → Env) (f : α → β → α) : ∀ (qs : List β) (P : Nat → α → Prop) (a : α), P 0 a → (∀ i a q, qs[i]? = some q → P i a → bodF C tg b (g q) (mk a) = some (.nx (mk (f a q))) ∧ P (i + 1) (f a q)) →
    loopF C tg b (qs.map g) (mk a) = some (.nx (mk (qs.foldl f a))) ∧ P qs.length (qs.foldl f a)
  | [], P, a, hp, _ => ⟨rfl, hp⟩
  | q :: qs, P, a, hp, h => by
    obtain ⟨h1, h2⟩ := h 0 a q rfl hp
    obtain ⟨h3, h4⟩ := loop_all g mk f qs (fun k => P (k + 1)) (f a q) h2 fun i a d hd hp => h (i + 1) a d (by rw [List.getElem?_cons_succ]; exact hd) hp
    refine ⟨?_, h4⟩
    unfold loopF at h3 ⊢
    rw [List.map_cons, forGo, h1]
    exact h3
theorem get_lt {α : Type} {l : List α} {i : Nat} {a : α} (h : l[i]? = some a) : i < l.length := (List.getElem?_eq_some_iff.mp h).1
theorem Rb.sum {B : Nat} : ∀ {qs : List Rat} {n : Nat} {a : Rat}, Rb n a → (∀ q ∈ qs, Rb B q) → Rb (n + qs.length * (B + 1)) (qs.foldl (fun a q => a + q) a)
  | [], n, a, h, _ => by simpa using h
  | q :: qs, n, a, h, hq => by
    have h1 := (h.add (hq q List.mem_cons_self))
    have := Rb.sum h1 fun q hq' => hq q (List.mem_cons_of_mem _ hq')
    rw [List.foldl_cons]
    refine this.mono ?_
    rw [List.length_cons, Nat.succ_mul]; omega
theorem run_total_of (hc : Has T f_common_divisor) (hf : Has T f_fraction) (hp : Has T f_plus) (h : Has T f_total_of) {B : Nat} {qs : List Rat} (hq : ∀ q ∈ qs, Rb B q) (hs : (qs.length + 2) * (B + 1) ≤ 2 ^ 26) :
    run real exc glb T (n + 4) "total_of" [.lst .sh (qs.map enc)] = some (.ok (enc (sumQ qs))) := by
  rw [run_eq (f := "total_of") (d := f_total_of) h rfl]
  obtain ⟨hl, _⟩ := loop_all (C := ctx real exc glb T (n + 3)) (tg := .one 2) (b := (nthS 1 c_total_of).bodyOf) enc (fun a => [.lst .sh (qs.map enc), enc a, .hole]) (fun a q => a + q) qs (fun k a => Rb (1 + k * (B + 1)) a) 0 ⟨Nat.pow_pos (by decide), Nat.one_lt_two_pow (by omega)⟩ (fun k a q hk ha => by
    have hq1 := hq q (List.mem_of_getElem? hk)
    have hk := get_lt hk
    have hm : k * (B + 1) ≤ qs.length * (B + 1) := Nat.mul_le_mul_right _ (by omega)
    rw [Nat.add_mul] at hs
    have e := run_plus (exc := exc) (glb := glb) (n := n) hc hf hp ha hq1 (by omega)
    refine ⟨?_, (ha.add hq1).mono (by rw [Nat.succ_mul]; omega)⟩
    unfold enc at e
    simp only [bodF, c_total_of, nthS, S.bodyOf, evE_mv, evE_fr, evE_bo, evE_lit, evE_glb, evE_shr, evE_bin, evE_neg, evE_not, evE_and, evE_or, evE_cmp, evE_ix, evE_pth, evE_sl, evE_tup, evE_lst, evE_call, evE_bi, evE_isi, evE_pop, evE_lrv, evE_lrg, evEs_nil, evEs_cons, evEo_no, evEo_so, evC_no, evC_so, evIt_list, evIt_rg1, evIt_rg2, evIt_rg3, evIt_rev, evIt_zip, evIt_enum, evIt_str, evIt_brw, evIt_tupi, evS_asg, evS_unp, evS_par, evS_swp, evS_set1, evS_aug, evS_mut0, evS_ex, evS_ifs, evS_scn, evS_ret, evS_rse, evS_try1, evS_try2, evS_brk, evS_cnt, evS_pas, evS_kil, evSs_nil, evSs_cons, sq_nx, sq_rt, sq_bk, sq_ct, sq_ex, evS_whl, evS_frs, evE_lc, bnd, sbnd, obnd, raw, res, resL, rawL, valsL, anyBor, opBin, opCmp, opBi, biAbs, biInt, biStr, biLen, biList, biSum, biMax, biMin, biAll, Itr.bk, putBack, itemsOf, hkGo, boolsOf, opNeg, opNot, ixD, slD, litD, atom, isD, D.share, shareL, D.isHole, D.whole, wholeL, D.noOw, noOwL, D.noSh, noShL, stIx, owAt, asB, setTg, putE, mutD, mtAppend, mtExtend, mtPop, mtClear, mtInsert, kill, List.foldl_cons, List.foldl_nil, List.getElem?_cons_zero, List.getElem?_cons_succ, List.getElem?_nil, List.set_cons_zero, List.set_cons_succ, List.length_cons, List.length_nil, Bool.and_true, Bool.true_and, Bool.and_false, Bool.false_and, Bool.not_true, Bool.not_false, cond_true, cond_false, if_true, if_false, ite_true, ite_false, reduceIte, reduceCtorEq, Bool.false_eq_true, startE, List.replicate, List.append_eq, List.nil_append, List.cons_append, List.append_nil, fin, TV.atI0, TV.atI1, Option.bind_some, Option.map_some, Bool.and_self, Bool.or_self, Nat.reduceSub, Nat.reduceAdd, Nat.reduceEqDiff, Bool.not_eq_true, Bool.and_eq_true, decide_true, decide_false, real_eq_int, real_eq_bl, real_eq_non, real_eq_enc, real_eq_enc2, eqD_int, eqD_bl, eqD_pair, Int.reduceEq, Int.reduceToNat, Int.reduceLE, Int.reduceLT, nab10, nab2, castn0, castn1, castn2, castn3, castn4, castn5, Nat.reduceLT, and_self, and_true, true_and, and_false, false_and, if_pos trivial, not_true_eq_false, not_false_eq_true, Bool.or_true, Bool.or_false, Bool.true_or, Bool.false_or, enc, e])
  show fin (evSs (ctx real exc glb T (n + 3)) c_total_of [.lst .sh (qs.map enc), .hole, .hole]) = _
  have e0 : enc 0 = .tup [.int 0, .int 1] := rfl
  rw [e0] at hl
  simp only [c_total_of, nthS, S.bodyOf] at hl
  simp only [c_total_of, evE_mv, evE_fr, evE_bo, evE_lit, evE_glb, evE_shr, evE_bin, evE_neg, evE_not, evE_and, evE_or, evE_cmp, evE_ix, evE_pth, evE_sl, evE_tup, evE_lst, evE_call, evE_bi, evE_isi, evE_pop, evE_lrv, evE_lrg, evEs_nil, evEs_cons, evEo_no, evEo_so, evC_no, evC_so, evIt_list, evIt_rg1, evIt_rg2, evIt_rg3, evIt_rev, evIt_zip, evIt_enum, evIt_str, evIt_brw, evIt_tupi, evS_asg, evS_unp, evS_par, evS_swp, evS_set1, evS_aug, evS_mut0, evS_ex, evS_ifs, evS_scn, evS_ret, evS_rse, evS_try1, evS_try2, evS_brk, evS_cnt, evS_pas, evS_kil, evSs_nil, evSs_cons, sq_nx, sq_rt, sq_bk, sq_ct, sq_ex, evS_whl, evS_frs, evE_lc, bnd, sbnd, obnd, raw, res, resL, rawL, valsL, anyBor, opBin, opCmp, opBi, biAbs, biInt, biStr, biLen, biList, biSum, biMax, biMin, biAll, Itr.bk, putBack, itemsOf, hkGo, boolsOf, opNeg, opNot, ixD, slD, litD, atom, isD, D.share, shareL, D.isHole, D.whole, wholeL, D.noOw, noOwL, D.noSh, noShL, stIx, owAt, asB, setTg, putE, mutD, mtAppend, mtExtend, mtPop, mtClear, mtInsert, kill, List.foldl_cons, List.foldl_nil, List.getElem?_cons_zero, List.getElem?_cons_succ, List.getElem?_nil, List.set_cons_zero, List.set_cons_succ, List.length_cons, List.length_nil, Bool.and_true, Bool.true_and, Bool.and_false, Bool.false_and, Bool.not_true, Bool.not_false, cond_true, cond_false, if_true, if_false, ite_true, ite_false, reduceIte, reduceCtorEq, Bool.false_eq_true, startE, List.replicate, List.append_eq, List.nil_append, List.cons_append, List.append_nil, fin, TV.atI0, TV.atI1, Option.bind_some, Option.map_some, Bool.and_self, Bool.or_self, Nat.reduceSub, Nat.reduceAdd, Nat.reduceEqDiff, Bool.not_eq_true, Bool.and_eq_true, decide_true, decide_false, real_eq_int, real_eq_bl, real_eq_non, real_eq_enc, real_eq_enc2, eqD_int, eqD_bl, eqD_pair, Int.reduceEq, Int.reduceToNat, Int.reduceLE, Int.reduceLT, nab10, nab2, castn0, castn1, castn2, castn3, castn4, castn5, Nat.reduceLT, and_self, and_true, true_and, and_false, false_and, if_pos trivial, not_true_eq_false, not_false_eq_true, Bool.or_true, Bool.or_false, Bool.true_or, Bool.false_or, noOwL_encs, hl, sumQ, enc]
theorem run_greatest_of (hl : Has T f_is_less) (h : Has T f_greatest_of) {B : Nat} {qs : List Rat} (hq : ∀ q ∈ qs, Rb B q) (hs : B + B ≤ 2 ^ 26) :
    run real exc glb T (n + 2) "greatest_of" [.lst .sh (qs.map enc)] = if qs = [] then some (.ex "NoNumber") else some (.ok (enc (maxQ qs))) := by
  rw [run_eq (f := "greatest_of") (d := f_greatest_of) h rfl]
  cases qs with
  | nil =>
    rw [if_pos rfl]
    simp only [c_greatest_of, f_greatest_of, evE_mv, evE_fr, evE_bo, evE_lit, evE_glb, evE_shr, evE_bin, evE_neg, evE_not, evE_and, evE_or, evE_cmp, evE_ix, evE_pth, evE_sl, evE_tup, evE_lst, evE_call, evE_bi, evE_isi, evE_pop, evE_lrv, evE_lrg, evEs_nil, evEs_cons, evEo_no, evEo_so, evC_no, evC_so, evIt_list, evIt_rg1, evIt_rg2, evIt_rg3, evIt_rev, evIt_zip, evIt_enum, evIt_str, evIt_brw, evIt_tupi, evS_asg, evS_unp, evS_par, evS_swp, evS_set1, evS_aug, evS_mut0, evS_ex, evS_ifs, evS_scn, evS_ret, evS_rse, evS_try1, evS_try2, evS_brk, evS_cnt, evS_pas, evS_kil, evSs_nil, evSs_cons, sq_nx, sq_rt, sq_bk, sq_ct, sq_ex, evS_whl, evS_frs, evE_lc, bnd, sbnd, obnd, raw, res, resL, rawL, valsL, anyBor, opBin, opCmp, opBi, biAbs, biInt, biStr, biLen, biList, biSum, biMax, biMin, biAll, Itr.bk, putBack, itemsOf, hkGo, boolsOf, opNeg, opNot, ixD, slD, litD, atom, isD, D.share, shareL, D.isHole, D.whole, wholeL, D.noOw, noOwL, D.noSh, noShL, stIx, owAt, asB, setTg, putE, mutD, mtAppend, mtExtend, mtPop, mtClear, mtInsert, kill, List.foldl_cons, List.foldl_nil, List.getElem?_cons_zero, List.getElem?_cons_succ, List.getElem?_nil, List.set_cons_zero, List.set_cons_succ, List.length_cons, List.length_nil, Bool.and_true, Bool.true_and, Bool.and_false, Bool.false_and, Bool.not_true, Bool.not_false, cond_true, cond_false, if_true, if_false, ite_true, ite_false, reduceIte, reduceCtorEq, Bool.false_eq_true, startE, List.replicate, List.append_eq, List.nil_append, List.cons_append, List.append_nil, fin, TV.atI0, TV.atI1, Option.bind_some, Option.map_some, Bool.and_self, Bool.or_self, Nat.reduceSub, Nat.reduceAdd, Nat.reduceEqDiff, Bool.not_eq_true, Bool.and_eq_true, decide_true, decide_false, real_eq_int, real_eq_bl, real_eq_non, real_eq_enc, real_eq_enc2, eqD_int, eqD_bl, eqD_pair, Int.reduceEq, Int.reduceToNat, Int.reduceLE, Int.reduceLT, nab10, nab2, castn0, castn1, castn2, castn3, castn4, castn5, Nat.reduceLT, and_self, and_true, true_and, and_false, false_and, if_pos trivial, not_true_eq_false, not_false_eq_true, Bool.or_true, Bool.or_false, Bool.true_or, Bool.false_or, List.map_nil]
  | cons q qs =>
    rw [if_neg (by simp)]
    obtain ⟨hl, _⟩ := loop_all (C := ctx real exc glb T (n + 1)) (tg := .one 2) (b := (nthS 2 c_greatest_of).bodyOf) enc (fun a => [.lst .sh ((q :: qs).map enc), enc a, .hole]) (fun a q => if a < q then q else a) (q :: qs) (fun k a => Rb B a) q (hq q List.mem_cons_self) (fun k a q hk ha => by
      have hq1 := hq q (List.mem_of_getElem? hk)
      have e := run_is_less (exc := exc) (glb := glb) (n := n) hl ha hq1 hs
      unfold enc at e
      by_cases hlt : a < q
      · rw [if_pos hlt]
        refine ⟨?_, hq1⟩
        simp only [bodF, c_greatest_of, nthS, S.bodyOf, evE_mv, evE_fr, evE_bo, evE_lit, evE_glb, evE_shr, evE_bin, evE_neg, evE_not, evE_and, evE_or, evE_cmp, evE_ix, evE_pth, evE_sl, evE_tup, evE_lst, evE_call, evE_bi, evE_isi, evE_pop, evE_lrv, evE_lrg, evEs_nil, evEs_cons, evEo_no, evEo_so, evC_no, evC_so, evIt_list, evIt_rg1, evIt_rg2, evIt_rg3, evIt_rev, evIt_zip, evIt_enum, evIt_str, evIt_brw, evIt_tupi, evS_asg, evS_unp, evS_par, evS_swp, evS_set1, evS_aug, evS_mut0, evS_ex, evS_ifs, evS_scn, evS_ret, evS_rse, evS_try1, evS_try2, evS_brk, evS_cnt, evS_pas, evS_kil, evSs_nil, evSs_cons, sq_nx, sq_rt, sq_bk, sq_ct, sq_ex, evS_whl, evS_frs, evE_lc, bnd, sbnd, obnd, raw, res, resL, rawL, valsL, anyBor, opBin, opCmp, opBi, biAbs, biInt, biStr, biLen, biList, biSum, biMax, biMin, biAll, Itr.bk, putBack, itemsOf, hkGo, boolsOf, opNeg, opNot, ixD, slD, litD, atom, isD, D.share, shareL, D.isHole, D.whole, wholeL, D.noOw, noOwL, D.noSh, noShL, stIx, owAt, asB, setTg, putE, mutD, mtAppend, mtExtend, mtPop, mtClear, mtInsert, kill, List.foldl_cons, List.foldl_nil, List.getElem?_cons_zero, List.getElem?_cons_succ, List.getElem?_nil, List.set_cons_zero, List.set_cons_succ, List.length_cons, List.length_nil, Bool.and_true, Bool.true_and, Bool.and_false, Bool.false_and, Bool.not_true, Bool.not_false, cond_true, cond_false, if_true, if_false, ite_true, ite_false, reduceIte, reduceCtorEq, Bool.false_eq_true, startE, List.replicate, List.append_eq, List.nil_append, List.cons_append, List.append_nil, fin, TV.atI0, TV.atI1, Option.bind_some, Option.map_some, Bool.and_self, Bool.or_self, Nat.reduceSub, Nat.reduceAdd, Nat.reduceEqDiff, Bool.not_eq_true, Bool.and_eq_true, decide_true, decide_false, real_eq_int, real_eq_bl, real_eq_non, real_eq_enc, real_eq_enc2, eqD_int, eqD_bl, eqD_pair, Int.reduceEq, Int.reduceToNat, Int.reduceLE, Int.reduceLT, nab10, nab2, castn0, castn1, castn2, castn3, castn4, castn5, Nat.reduceLT, and_self, and_true, true_and, and_false, false_and, if_pos trivial, not_true_eq_false, not_false_eq_true, Bool.or_true, Bool.or_false, Bool.true_or, Bool.false_or, enc, e, hlt]
      · rw [if_neg hlt]
        refine ⟨?_, ha⟩
        simp only [bodF, c_greatest_of, nthS, S.bodyOf, evE_mv, evE_fr, evE_bo, evE_lit, evE_glb, evE_shr, evE_bin, evE_neg, evE_not, evE_and, evE_or, evE_cmp, evE_ix, evE_pth, evE_sl, evE_tup, evE_lst, evE_call, evE_bi, evE_isi, evE_pop, evE_lrv, evE_lrg, evEs_nil, evEs_cons, evEo_no, evEo_so, evC_no, evC_so, evIt_list, evIt_rg1, evIt_rg2, evIt_rg3, evIt_rev, evIt_zip, evIt_enum, evIt_str, evIt_brw, evIt_tupi, evS_asg, evS_unp, evS_par, evS_swp, evS_set1, evS_aug, evS_mut0, evS_ex, evS_ifs, evS_scn, evS_ret, evS_rse, evS_try1, evS_try2, evS_brk, evS_cnt, evS_pas, evS_kil, evSs_nil, evSs_cons, sq_nx, sq_rt, sq_bk, sq_ct, sq_ex, evS_whl, evS_frs, evE_lc, bnd, sbnd, obnd, raw, res, resL, rawL, valsL, anyBor, opBin, opCmp, opBi, biAbs, biInt, biStr, biLen, biList, biSum, biMax, biMin, biAll, Itr.bk, putBack, itemsOf, hkGo, boolsOf, opNeg, opNot, ixD, slD, litD, atom, isD, D.share, shareL, D.isHole, D.whole, wholeL, D.noOw, noOwL, D.noSh, noShL, stIx, owAt, asB, setTg, putE, mutD, mtAppend, mtExtend, mtPop, mtClear, mtInsert, kill, List.foldl_cons, List.foldl_nil, List.getElem?_cons_zero, List.getElem?_cons_succ, List.getElem?_nil, List.set_cons_zero, List.set_cons_succ, List.length_cons, List.length_nil, Bool.and_true, Bool.true_and, Bool.and_false, Bool.false_and, Bool.not_true, Bool.not_false, cond_true, cond_false, if_true, if_false, ite_true, ite_false, reduceIte, reduceCtorEq, Bool.false_eq_true, startE, List.replicate, List.append_eq, List.nil_append, List.cons_append, List.append_nil, fin, TV.atI0, TV.atI1, Option.bind_some, Option.map_some, Bool.and_self, Bool.or_self, Nat.reduceSub, Nat.reduceAdd, Nat.reduceEqDiff, Bool.not_eq_true, Bool.and_eq_true, decide_true, decide_false, real_eq_int, real_eq_bl, real_eq_non, real_eq_enc, real_eq_enc2, eqD_int, eqD_bl, eqD_pair, Int.reduceEq, Int.reduceToNat, Int.reduceLE, Int.reduceLT, nab10, nab2, castn0, castn1, castn2, castn3, castn4, castn5, Nat.reduceLT, and_self, and_true, true_and, and_false, false_and, if_pos trivial, not_true_eq_false, not_false_eq_true, Bool.or_true, Bool.or_false, Bool.true_or, Bool.false_or, enc, e, hlt])
    show fin (evSs (ctx real exc glb T (n + 1)) c_greatest_of [.lst .sh ((q :: qs).map enc), .hole, .hole]) = _
    have hne : ¬ ((((q :: qs).map enc).length : Nat) : Int) = 0 := by simp; omega
    have h0 : atI ((q :: qs).map enc) 0 = some (enc q) := atI0
    have ho := noOwL_encs (q :: qs)
    simp only [c_greatest_of, nthS, S.bodyOf] at hl
    generalize (q :: qs).map enc = l at *
    unfold enc at hl h0
    simp only [c_greatest_of, evE_mv, evE_fr, evE_bo, evE_lit, evE_glb, evE_shr, evE_bin, evE_neg, evE_not, evE_and, evE_or, evE_cmp, evE_ix, evE_pth, evE_sl, evE_tup, evE_lst, evE_call, evE_bi, evE_isi, evE_pop, evE_lrv, evE_lrg, evEs_nil, evEs_cons, evEo_no, evEo_so, evC_no, evC_so, evIt_list, evIt_rg1, evIt_rg2, evIt_rg3, evIt_rev, evIt_zip, evIt_enum, evIt_str, evIt_brw, evIt_tupi, evS_asg, evS_unp, evS_par, evS_swp, evS_set1, evS_aug, evS_mut0, evS_ex, evS_ifs, evS_scn, evS_ret, evS_rse, evS_try1, evS_try2, evS_brk, evS_cnt, evS_pas, evS_kil, evSs_nil, evSs_cons, sq_nx, sq_rt, sq_bk, sq_ct, sq_ex, evS_whl, evS_frs, evE_lc, bnd, sbnd, obnd, raw, res, resL, rawL, valsL, anyBor, opBin, opCmp, opBi, biAbs, biInt, biStr, biLen, biList, biSum, biMax, biMin, biAll, Itr.bk, putBack, itemsOf, hkGo, boolsOf, opNeg, opNot, ixD, slD, litD, atom, isD, D.share, shareL, D.isHole, D.whole, wholeL, D.noOw, noOwL, D.noSh, noShL, stIx, owAt, asB, setTg, putE, mutD, mtAppend, mtExtend, mtPop, mtClear, mtInsert, kill, List.foldl_cons, List.foldl_nil, List.getElem?_cons_zero, List.getElem?_cons_succ, List.getElem?_nil, List.set_cons_zero, List.set_cons_succ, List.length_cons, List.length_nil, Bool.and_true, Bool.true_and, Bool.and_false, Bool.false_and, Bool.not_true, Bool.not_false, cond_true, cond_false, if_true, if_false, ite_true, ite_false, reduceIte, reduceCtorEq, Bool.false_eq_true, startE, List.replicate, List.append_eq, List.nil_append, List.cons_append, List.append_nil, fin, TV.atI0, TV.atI1, Option.bind_some, Option.map_some, Bool.and_self, Bool.or_self, Nat.reduceSub, Nat.reduceAdd, Nat.reduceEqDiff, Bool.not_eq_true, Bool.and_eq_true, decide_true, decide_false, real_eq_int, real_eq_bl, real_eq_non, real_eq_enc, real_eq_enc2, eqD_int, eqD_bl, eqD_pair, Int.reduceEq, Int.reduceToNat, Int.reduceLE, Int.reduceLT, nab10, nab2, castn0, castn1, castn2, castn3, castn4, castn5, Nat.reduceLT, and_self, and_true, true_and, and_false, false_and, if_pos trivial, not_true_eq_false, not_false_eq_true, Bool.or_true, Bool.or_false, Bool.true_or, Bool.false_or, ho, hl, hne, h0, maxQ, enc]
theorem run_least_of (hl : Has T f_is_less) (h : Has T f_least_of) {B : Nat} {qs : List Rat} (hq : ∀ q ∈ qs, Rb B q) (hs : B + B ≤ 2 ^ 26) :
    run real exc glb T (n + 2) "least_of" [.lst .sh (qs.map enc)] = if qs = [] then some (.ex "NoNumber") else some (.ok (enc (minQ qs))) := by
  rw [run_eq (f := "least_of") (d := f_least_of) h rfl]
  cases qs with
  | nil =>
    rw [if_pos rfl]
    simp only [c_least_of, f_least_of, evE_mv, evE_fr, evE_bo, evE_lit, evE_glb, evE_shr, evE_bin, evE_neg, evE_not, evE_and, evE_or, evE_cmp, evE_ix, evE_pth, evE_sl, evE_tup, evE_lst, evE_call, evE_bi, evE_isi, evE_pop, evE_lrv, evE_lrg, evEs_nil, evEs_cons, evEo_no, evEo_so, evC_no, evC_so, evIt_list, evIt_rg1, evIt_rg2, evIt_rg3, evIt_rev, evIt_zip, evIt_enum, evIt_str, evIt_brw, evIt_tupi, evS_asg, evS_unp, evS_par, evS_swp, evS_set1, evS_aug, evS_mut0, evS_ex, evS_ifs, evS_scn, evS_ret, evS_rse, evS_try1, evS_try2, evS_brk, evS_cnt, evS_pas, evS_kil, evSs_nil, evSs_cons, sq_nx, sq_rt, sq_bk, sq_ct, sq_ex, evS_whl, evS_frs, evE_lc, bnd, sbnd, obnd, raw, res, resL, rawL, valsL, anyBor, opBin, opCmp, opBi, biAbs, biInt, biStr, biLen, biList, biSum, biMax, biMin, biAll, Itr.bk, putBack, itemsOf, hkGo, boolsOf, opNeg, opNot, ixD, slD, litD, atom, isD, D.share, shareL, D.isHole, D.whole, wholeL, D.noOw, noOwL, D.noSh, noShL, stIx, owAt, asB, setTg, putE, mutD, mtAppend, mtExtend, mtPop, mtClear, mtInsert, kill, List.foldl_cons, List.foldl_nil, List.getElem?_cons_zero, List.getElem?_cons_succ, List.getElem?_nil, List.set_cons_zero, List.set_cons_succ, List.length_cons, List.length_nil, Bool.and_true, Bool.true_and, Bool.and_false, Bool.false_and, Bool.not_true, Bool.not_false, cond_true, cond_false, if_true, if_false, ite_true, ite_false, reduceIte, reduceCtorEq, Bool.false_eq_true, startE, List.replicate, List.append_eq, List.nil_append, List.cons_append, List.append_nil, fin, TV.atI0, TV.atI1, Option.bind_some, Option.map_some, Bool.and_self, Bool.or_self, Nat.reduceSub, Nat.reduceAdd, Nat.reduceEqDiff, Bool.not_eq_true, Bool.and_eq_true, decide_true, decide_false, real_eq_int, real_eq_bl, real_eq_non, real_eq_enc, real_eq_enc2, eqD_int, eqD_bl, eqD_pair, Int.reduceEq, Int.reduceToNat, Int.reduceLE, Int.reduceLT, nab10, nab2, castn0, castn1, castn2, castn3, castn4, castn5, Nat.reduceLT, and_self, and_true, true_and, and_false, false_and, if_pos trivial, not_true_eq_false, not_false_eq_true, Bool.or_true, Bool.or_false, Bool.true_or, Bool.false_or, List.map_nil]
  | cons q qs =>
    rw [if_neg (by simp)]
    obtain ⟨hl, _⟩ := loop_all (C := ctx real exc glb T (n + 1)) (tg := .one 2) (b := (nthS 2 c_least_of).bodyOf) enc (fun a => [.lst .sh ((q :: qs).map enc), enc a, .hole]) (fun a q => if q < a then q else a) (q :: qs) (fun k a => Rb B a) q (hq q List.mem_cons_self) (fun k a q hk ha => by
      have hq1 := hq q (List.mem_of_getElem? hk)
      have e := run_is_less (exc := exc) (glb := glb) (n := n) hl hq1 ha hs
      unfold enc at e
      by_cases hlt : q < a
      · rw [if_pos hlt]
        refine ⟨?_, hq1⟩
        simp only [bodF, c_least_of, nthS, S.bodyOf, evE_mv, evE_fr, evE_bo, evE_lit, evE_glb, evE_shr, evE_bin, evE_neg, evE_not, evE_and, evE_or, evE_cmp, evE_ix, evE_pth, evE_sl, evE_tup, evE_lst, evE_call, evE_bi, evE_isi, evE_pop, evE_lrv, evE_lrg, evEs_nil, evEs_cons, evEo_no, evEo_so, evC_no, evC_so, evIt_list, evIt_rg1, evIt_rg2, evIt_rg3, evIt_rev, evIt_zip, evIt_enum, evIt_str, evIt_brw, evIt_tupi, evS_asg, evS_unp, evS_par, evS_swp, evS_set1, evS_aug, evS_mut0, evS_ex, evS_ifs, evS_scn, evS_ret, evS_rse, evS_try1, evS_try2, evS_brk, evS_cnt, evS_pas, evS_kil, evSs_nil, evSs_cons, sq_nx, sq_rt, sq_bk, sq_ct, sq_ex, evS_whl, evS_frs, evE_lc, bnd, sbnd, obnd, raw, res, resL, rawL, valsL, anyBor, opBin, opCmp, opBi, biAbs, biInt, biStr, biLen, biList, biSum, biMax, biMin, biAll, Itr.bk, putBack, itemsOf, hkGo, boolsOf, opNeg, opNot, ixD, slD, litD, atom, isD, D.share, shareL, D.isHole, D.whole, wholeL, D.noOw, noOwL, D.noSh, noShL, stIx, owAt, asB, setTg, putE, mutD, mtAppend, mtExtend, mtPop, mtClear, mtInsert, kill, List.foldl_cons, List.foldl_nil, List.getElem?_cons_zero, List.getElem?_cons_succ, List.getElem?_nil, List.set_cons_zero, List.set_cons_succ, List.length_cons, List.length_nil, Bool.and_true, Bool.true_and, Bool.and_false, Bool.false_and, Bool.not_true, Bool.not_false, cond_true, cond_false, if_true, if_false, ite_true, ite_false, reduceIte, reduceCtorEq, Bool.false_eq_true, startE, List.replicate, List.append_eq, List.nil_append, List.cons_append, List.append_nil, fin, TV.atI0, TV.atI1, Option.bind_some, Option.map_some, Bool.and_self, Bool.or_self, Nat.reduceSub, Nat.reduceAdd, Nat.reduceEqDiff, Bool.not_eq_true, Bool.and_eq_true, decide_true, decide_false, real_eq_int, real_eq_bl, real_eq_non, real_eq_enc, real_eq_enc2, eqD_int, eqD_bl, eqD_pair, Int.reduceEq, Int.reduceToNat, Int.reduceLE, Int.reduceLT, nab10, nab2, castn0, castn1, castn2, castn3, castn4, castn5, Nat.reduceLT, and_self, and_true, true_and, and_false, false_and, if_pos trivial, not_true_eq_false, not_false_eq_true, Bool.or_true, Bool.or_false, Bool.true_or, Bool.false_or, enc, e, hlt]
      · rw [if_neg hlt]
        refine ⟨?_, ha⟩
        simp only [bodF, c_least_of, nthS, S.bodyOf, evE_mv, evE_fr, evE_bo, evE_lit, evE_glb, evE_shr, evE_bin, evE_neg, evE_not, evE_and, evE_or, evE_cmp, evE_ix, evE_pth, evE_sl, evE_tup, evE_lst, evE_call, evE_bi, evE_isi, evE_pop, evE_lrv, evE_lrg, evEs_nil, evEs_cons, evEo_no, evEo_so, evC_no, evC_so, evIt_list, evIt_rg1, evIt_rg2, evIt_rg3, evIt_rev, evIt_zip, evIt_enum, evIt_str, evIt_brw, evIt_tupi, evS_asg, evS_unp, evS_par, evS_swp, evS_set1, evS_aug, evS_mut0, evS_ex, evS_ifs, evS_scn, evS_ret, evS_rse, evS_try1, evS_try2, evS_brk, evS_cnt, evS_pas, evS_kil, evSs_nil, evSs_cons, sq_nx, sq_rt, sq_bk, sq_ct, sq_ex, evS_whl, evS_frs, evE_lc, bnd, sbnd, obnd, raw, res, resL, rawL, valsL, anyBor, opBin, opCmp, opBi, biAbs, biInt, biStr, biLen, biList, biSum, biMax, biMin, biAll, Itr.bk, putBack, itemsOf, hkGo, boolsOf, opNeg, opNot, ixD, slD, litD, atom, isD, D.share, shareL, D.isHole, D.whole, wholeL, D.noOw, noOwL, D.noSh, noShL, stIx, owAt, asB, setTg, putE, mutD, mtAppend, mtExtend, mtPop, mtClear, mtInsert, kill, List.foldl_cons, List.foldl_nil, List.getElem?_cons_zero, List.getElem?_cons_succ, List.getElem?_nil, List.set_cons_zero, List.set_cons_succ, List.length_cons, List.length_nil, Bool.and_true, Bool.true_and, Bool.and_false, Bool.false_and, Bool.not_true, Bool.not_false, cond_true, cond_false, if_true, if_false, ite_true, ite_false, reduceIte, reduceCtorEq, Bool.false_eq_true, startE, List.replicate, List.append_eq, List.nil_append, List.cons_append, List.append_nil, fin, TV.atI0, TV.atI1, Option.bind_some, Option.map_some, Bool.and_self, Bool.or_self, Nat.reduceSub, Nat.reduceAdd, Nat.reduceEqDiff, Bool.not_eq_true, Bool.and_eq_true, decide_true, decide_false, real_eq_int, real_eq_bl, real_eq_non, real_eq_enc, real_eq_enc2, eqD_int, eqD_bl, eqD_pair, Int.reduceEq, Int.reduceToNat, Int.reduceLE, Int.reduceLT, nab10, nab2, castn0, castn1, castn2, castn3, castn4, castn5, Nat.reduceLT, and_self, and_true, true_and, and_false, false_and, if_pos trivial, not_true_eq_false, not_false_eq_true, Bool.or_true, Bool.or_false, Bool.true_or, Bool.false_or, enc, e, hlt])
    show fin (evSs (ctx real exc glb T (n + 1)) c_least_of [.lst .sh ((q :: qs).map enc), .hole, .hole]) = _
    have hne : ¬ ((((q :: qs).map enc).length : Nat) : Int) = 0 := by simp; omega
    have h0 : atI ((q :: qs).map enc) 0 = some (enc q) := atI0
    have ho := noOwL_encs (q :: qs)
    simp only [c_least_of, nthS, S.bodyOf] at hl
    generalize (q :: qs).map enc = l at *
    unfold enc at hl h0
    simp only [c_least_of, evE_mv, evE_fr, evE_bo, evE_lit, evE_glb, evE_shr, evE_bin, evE_neg, evE_not, evE_and, evE_or, evE_cmp, evE_ix, evE_pth, evE_sl, evE_tup, evE_lst, evE_call, evE_bi, evE_isi, evE_pop, evE_lrv, evE_lrg, evEs_nil, evEs_cons, evEo_no, evEo_so, evC_no, evC_so, evIt_list, evIt_rg1, evIt_rg2, evIt_rg3, evIt_rev, evIt_zip, evIt_enum, evIt_str, evIt_brw, evIt_tupi, evS_asg, evS_unp, evS_par, evS_swp, evS_set1, evS_aug, evS_mut0, evS_ex, evS_ifs, evS_scn, evS_ret, evS_rse, evS_try1, evS_try2, evS_brk, evS_cnt, evS_pas, evS_kil, evSs_nil, evSs_cons, sq_nx, sq_rt, sq_bk, sq_ct, sq_ex, evS_whl, evS_frs, evE_lc, bnd, sbnd, obnd, raw, res, resL, rawL, valsL, anyBor, opBin, opCmp, opBi, biAbs, biInt, biStr, biLen, biList, biSum, biMax, biMin, biAll, Itr.bk, putBack, itemsOf, hkGo, boolsOf, opNeg, opNot, ixD, slD, litD, atom, isD, D.share, shareL, D.isHole, D.whole, wholeL, D.noOw, noOwL, D.noSh, noShL, stIx, owAt, asB, setTg, putE, mutD, mtAppend, mtExtend, mtPop, mtClear, mtInsert, kill, List.foldl_cons, List.foldl_nil, List.getElem?_cons_zero, List.getElem?_cons_succ, List.getElem?_nil, List.set_cons_zero, List.set_cons_succ, List.length_cons, List.length_nil, Bool.and_true, Bool.true_and, Bool.and_false, Bool.false_and, Bool.not_true, Bool.not_false, cond_true, cond_false, if_true, if_false, ite_true, ite_false, reduceIte, reduceCtorEq, Bool.false_eq_true, startE, List.replicate, List.append_eq, List.nil_append, List.cons_append, List.append_nil, fin, TV.atI0, TV.atI1, Option.bind_some, Option.map_some, Bool.and_self, Bool.or_self, Nat.reduceSub, Nat.reduceAdd, Nat.reduceEqDiff, Bool.not_eq_true, Bool.and_eq_true, decide_true, decide_false, real_eq_int, real_eq_bl, real_eq_non, real_eq_enc, real_eq_enc2, eqD_int, eqD_bl, eqD_pair, Int.reduceEq, Int.reduceToNat, Int.reduceLE, Int.reduceLT, nab10, nab2, castn0, castn1, castn2, castn3, castn4, castn5, Nat.reduceLT, and_self, and_true, true_and, and_false, false_and, if_pos trivial, not_true_eq_false, not_false_eq_true, Bool.or_true, Bool.or_false, Bool.true_or, Bool.false_or, ho, hl, hne, h0, minQ, enc]
theorem rat_ext_iff (p q : Rat) : p = q ↔ p.num = q.num ∧ (p.den : Int) = q.den := by
  constructor
  · rintro rfl; exact ⟨rfl, rfl⟩
  · rintro ⟨h1, h2⟩; exact Rat.ext h1 (by omega)
theorem eqD_enc (p q : Rat) : eqD (enc p) (enc q) = decide (p = q) := by
  unfold enc
  rw [eqD_pair, ← Bool.decide_and]
  exact decide_eq_decide.mpr (rat_ext_iff p q).symm
theorem eqvAll_encs : ∀ ps qs : List Rat, PyData.eqvAll (pyL (ps.map enc)) (pyL (qs.map enc)) = decide (ps = qs)
  | [], [] => rfl
  | [], _ :: _ => by simp [pyL, PyData.eqvAll]
  | _ :: _, [] => by simp [pyL, PyData.eqvAll]
  | p :: ps, q :: qs => by
    rw [List.map_cons, List.map_cons, pyL, pyL, PyData.eqvAll, eqvAll_encs ps qs]
    have := eqD_enc p q
    unfold eqD at this
    rw [this, ← Bool.decide_and]
    exact decide_eq_decide.mpr (by simp)
theorem eqD_encs (k k' : LK) (ps qs : List Rat) : eqD (.lst k (ps.map enc)) (.lst k' (qs.map enc)) = decide (ps = qs) := by
  unfold eqD
  rw [D.py, D.py, PyData.eqv]
  exact eqvAll_encs ps qs
theorem any_encs (qs : List Rat) (q : Rat) : ((qs.map enc).any fun z => eqD z (enc q)) = decide (q ∈ qs) := by
  induction qs with
  | nil => rfl
  | cons p qs ih =>
    rw [List.map_cons, List.any_cons, ih, eqD_enc, ← Bool.decide_or]
    exact decide_eq_decide.mpr (by simp [eq_comm])
/-- data that may be compared -/
def flatP (d : D) : Prop := d.py.canLay0 = true ∧ d.py.depth ≤ 10
theorem flat_all : ∀ {ds : List D}, (∀ d ∈ ds, flatP d) → PyData.canLayAll0 (pyL ds) = true ∧ PyData.depthAll (pyL ds) ≤ 10
  | [], _ => by simp [pyL, PyData.canLayAll0, PyData.depthAll]
  | d :: ds, h => by
    obtain ⟨h1, h2⟩ := flat_all fun d' hd => h d' (List.mem_cons_of_mem _ hd)
    obtain ⟨h3, h4⟩ := h d List.mem_cons_self
    rw [pyL, PyData.canLayAll0, PyData.depthAll, h3, h1]
    exact ⟨rfl, by omega⟩
theorem real_eq_lst {k : LK} {ds : List D} (h : ∀ d ∈ ds, flatP d) : real.eq (.lst k ds) = true := by
  obtain ⟨h1, h2⟩ := flat_all h
  show SeqAt.shaped (D.lst k ds).py = true
  rw [D.py]
  unfold SeqAt.shaped
  rw [PyData.canLay0, h1, PyData.depth, Bool.true_and]
  exact decide_eq_true (by omega)
theorem flat_enc (q : Rat) : flatP (enc q) := ⟨rfl, by simp [enc, D.py, pyL, PyData.depth, PyData.depthAll]⟩
theorem real_eq_encs (k : LK) (qs : List Rat) : real.eq (.lst k (qs.map enc)) = true := real_eq_lst fun d hd => by
  obtain ⟨q, _, rfl⟩ := List.mem_map.mp hd
  exact flat_enc q
theorem fold_max : ∀ (qs : List Rat) (a : Rat), ((qs.foldl (fun a q => if a < q then q else a) a) = a ∨ (qs.foldl (fun a q => if a < q then q else a) a) ∈ qs) ∧ a ≤ qs.foldl (fun a q => if a < q then q else a) a ∧ ∀ q ∈ qs, q ≤ qs.foldl (fun a q => if a < q then q else a) a
  | [], a => ⟨.inl rfl, Rat.le_refl, fun _ h => nomatch h⟩
  | q :: qs, a => by
    rw [List.foldl_cons]
    obtain ⟨h1, h2, h3⟩ := fold_max qs (if a < q then q else a)
    have ha : a ≤ (if a < q then q else a) := by split <;> grind
    have hq : q ≤ (if a < q then q else a) := by split <;> grind
    refine ⟨?_, Rat.le_trans ha h2, fun x hx => ?_⟩
    · rcases h1 with h1 | h1
      · rw [h1]
        split
        · exact .inr List.mem_cons_self
        · exact .inl rfl
      · exact .inr (List.mem_cons_of_mem _ h1)
    · rcases List.mem_cons.mp hx with rfl | hx
      · exact Rat.le_trans hq h2
      · exact h3 x hx
theorem fold_min : ∀ (qs : List Rat) (a : Rat), ((qs.foldl (fun a q => if q < a then q else a) a) = a ∨ (qs.foldl (fun a q => if q < a then q else a) a) ∈ qs) ∧ (qs.foldl (fun a q => if q < a then q else a) a) ≤ a ∧ ∀ q ∈ qs, (qs.foldl (fun a q => if q < a then q else a) a) ≤ q
  | [], a => ⟨.inl rfl, Rat.le_refl, fun _ h => nomatch h⟩
  | q :: qs, a => by
    rw [List.foldl_cons]
    obtain ⟨h1, h2, h3⟩ := fold_min qs (if q < a then q else a)
    have ha : (if q < a then q else a) ≤ a := by split <;> grind
    have hq : (if q < a then q else a) ≤ q := by split <;> grind
    refine ⟨?_, Rat.le_trans h2 ha, fun x hx => ?_⟩
    · rcases h1 with h1 | h1
      · rw [h1]
        split
        · exact .inr List.mem_cons_self
        · exact .inl rfl
      · exact .inr (List.mem_cons_of_mem _ h1)
    · rcases List.mem_cons.mp hx with rfl | hx
      · exact Rat.le_trans h2 hq
      · exact h3 x hx
theorem maxQ_mem {qs : List Rat} (h : qs ≠ []) : maxQ qs ∈ qs := by
  cases qs with
  | nil => exact absurd rfl h
  | cons q qs =>
    obtain ⟨h1, _⟩ := fold_max (q :: qs) q
    rcases h1 with h1 | h1
    · show List.foldl _ _ _ ∈ _
      rw [h1]; exact List.mem_cons_self
    · exact h1
theorem maxQ_le {qs : List Rat} {q : Rat} (h : q ∈ qs) : q ≤ maxQ qs := by
  cases qs with
  | nil => exact nomatch h
  | cons p qs => exact (fold_max (p :: qs) p).2.2 q h
theorem minQ_mem {qs : List Rat} (h : qs ≠ []) : minQ qs ∈ qs := by
  cases qs with
  | nil => exact absurd rfl h
  | cons q qs =>
    obtain ⟨h1, _⟩ := fold_min (q :: qs) q
    rcases h1 with h1 | h1
    · show List.foldl _ _ _ ∈ _
      rw [h1]; exact List.mem_cons_self
    · exact h1
theorem minQ_le {qs : List Rat} {q : Rat} (h : q ∈ qs) : minQ qs ≤ q := by
  cases qs with
  | nil => exact nomatch h
  | cons p qs => exact (fold_min (p :: qs) p).2.2 q h
theorem loop_inv {C : Ctx} {tg : Tg} {b : Ss} : ∀ (items : List D) (P : Nat → Env → Prop) (env : Env), P 0 env → (∀ i d env, items[i]? = some d → P i env → ∃ env', bodF C tg b d env = some (.nx env') ∧ P (i + 1) env') → ∃ env', loopF C tg b items env = some (.nx env') ∧ P items.length env'
  | [], P, env, hp, _ => ⟨env, rfl, hp⟩
  | d :: ds, P, env, hp, h => by
    obtain ⟨e1, h1, h2⟩ := h 0 d env rfl hp
    obtain ⟨e2, h3, h4⟩ := loop_inv ds (fun k => P (k + 1)) e1 h2 fun i a d hd hp => h (i + 1) a d (by rw [List.getElem?_cons_succ]; exact hd) hp
    refine ⟨e2, ?_, h4⟩
    unfold loopF at h3 ⊢
    rw [forGo, h1]
    exact h3
theorem comp_all {C : Ctx} {elt : E} {tg : Tg} {cond : Eo} {own : List Nat} {β : Type} (g : β → D) (r : β → Option D) (E : Env) : ∀ (qs : List β), (∀ q ∈ qs, ∃ e, (∀ env, kill own env = E → lcF C elt tg cond own (g q) env = some (.ok (r q) e)) ∧ kill own e = E) → ∀ env, kill own env = E → loopC C elt tg cond own (qs.map g) env = some (.ok (.val (.lst .ow (qs.filterMap r))) E) := by
  have key : ∀ (qs : List β), (∀ q ∈ qs, ∃ e, (∀ env, kill own env = E → lcF C elt tg cond own (g q) env = some (.ok (r q) e)) ∧ kill own e = E) → ∀ env, kill own env = E → ∃ e, compGo (lcF C elt tg cond own) (qs.map g) env = some (qs.filterMap r, e) ∧ kill own e = E := by
    intro qs
    induction qs with
    | nil => exact fun _ env h => ⟨env, rfl, h⟩
    | cons q qs ih =>
      intro h env henv
      obtain ⟨e, h1, h2⟩ := h q List.mem_cons_self
      obtain ⟨e2, h3, h4⟩ := ih (fun x hx => h x (List.mem_cons_of_mem _ hx)) e h2
      refine ⟨e2, ?_, h4⟩
      rw [List.map_cons, compGo, h1 env henv]
      dsimp only
      rw [h3]
      cases hr : r q with
      | none => rw [List.filterMap_cons_none hr]
      | some x => rw [List.filterMap_cons_some hr]
  intro qs h env henv
  obtain ⟨e, h1, h2⟩ := key qs h env henv
  unfold loopC
  rw [h1]
  dsimp only
  rw [h2]
theorem lcF_at {C : Ctx} {elt : E} {tg : Tg} {cond : Eo} {own : List Nat} {d : D} {env : Env} : lcF C elt tg cond own d env = obnd (setTg tg d (kill own env)) fun e2 => bnd (evC C cond e2) fun b e3 =>
  if b then bnd (evE C elt e3) fun t e4 => match t with
    | .val x => some (.ok (some x) e4)
    | .bor _ => none
  else some (.ok none e3) := rfl
theorem intsOf_ints : ∀ l : List Int, intsOf (l.map D.int) = some l
  | [] => rfl
  | n :: l => by rw [List.map_cons, intsOf, intsOf_ints l]; rfl
theorem atI_neg1 {α : Type} (l : List α) (h : l ≠ []) : atI l (-1) = l.getLast? := by
  have hl : 0 < l.length := List.length_pos_iff.mpr h
  unfold atI ixN
  rw [if_neg (by omega), if_pos (by omega), List.getLast?_eq_getElem?]
  have e : ((-1 : Int) + (l.length : Int)).toNat = l.length - 1 := by omega
  rw [e]; rfl
theorem fdiv_nat (a b : Nat) : Int.fdiv (a : Int) (b : Int) = ((a / b : Nat) : Int) := by
  rw [Int.fdiv_eq_ediv_of_nonneg _ (by omega)]; rfl
theorem lcm_fdiv (l d : Nat) : Int.fdiv ((l : Int) * (d : Int)) (Int.gcd (l : Int) (d : Int) : Int) = (Nat.lcm l d : Int) := by
  have e : Int.gcd (l : Int) (d : Int) = Nat.gcd l d := rfl
  rw [e]
  exact fdiv_nat (l * d) (Nat.gcd l d)
theorem Bd.lsum {B : Nat} : ∀ {l : List Int}, (∀ x ∈ l, Bd B x) → Bd (B + l.length) l.sum
  | [], _ => Nat.pow_pos (by decide)
  | x :: l, h => by
    have h1 := h x List.mem_cons_self
    have h2 := Bd.lsum fun y hy => h y (List.mem_cons_of_mem _ hy)
    rw [List.sum_cons, List.length_cons]
    exact (h1.add h2).mono (by omega)
theorem filterMap_some {α β : Type} (f : α → β) (l : List α) : l.filterMap (fun x => some (f x)) = l.map f := by
  induction l with
  | nil => rfl
  | cons x l ih => rw [List.filterMap_cons_some (f := fun x => some (f x)) (b := f x) rfl, List.map_cons, ih]
theorem rat_div (q : Rat) : q = (q.num : Rat) / ((q.den : Int) : Rat) := by
  rw [← Rat.divInt_eq_div]; exact rat_eq q
theorem intCast_ne {i : Int} (h : i ≠ 0) : (i : Rat) ≠ 0 := fun z => h (Rat.intCast_inj.mp z)
/-- a total over one bottom -/
theorem sum_over {L : Int} (hL : L ≠ 0) : ∀ (qs : List Rat) (a : Rat), (∀ q ∈ qs, (q.den : Int) ∣ L) → qs.foldl (fun a q => a + q) a = a + Rat.divInt ((qs.map fun q => q.num * L.fdiv q.den).sum) L
  | [], a, _ => by
    show a = a + Rat.divInt 0 L
    rw [Rat.zero_divInt]; exact (Rat.add_zero a).symm
  | q :: qs, a, h => by
    rw [List.foldl_cons, sum_over hL qs (a + q) fun p hp => h p (List.mem_cons_of_mem _ hp), List.map_cons, List.sum_cons, Rat.divInt_eq_div, Rat.divInt_eq_div]
    obtain ⟨m, hm⟩ := h q List.mem_cons_self
    have e1 : L.fdiv q.den = m := by rw [hm]; exact Int.mul_fdiv_cancel_left _ (den_ne q)
    have e2 := rat_div q
    have h1 := intCast_ne hL
    have h2 := intCast_ne (den_ne q)
    rw [e1, Rat.intCast_add, Rat.intCast_mul]
    have e3 : (L : Rat) = ((q.den : Int) : Rat) * (m : Rat) := by rw [hm, Rat.intCast_mul]
    generalize ((qs.map fun q => q.num * L.fdiv q.den).sum : Int) = S at *
    generalize hd : (((q.den : Nat) : Int) : Rat) = d at *
    generalize hn : (q.num : Rat) = u at *
    generalize (L : Rat) = l at *
    generalize (m : Rat) = k at *
    generalize (S : Rat) = s at *
    grind
theorem rgD_len (lo : Int) (n : Nat) (c : Int) : (rgD lo n c).length = n := by unfold rgD; simp
theorem rgD_get {lo : Int} {n : Nat} {c : Int} {i : Nat} {d : D} (h : (rgD lo n c)[i]? = some d) : i < n ∧ d = .int (lo + (i : Int) * c) := by
  have hi := get_lt h
  rw [rgD_len] at hi
  unfold rgD at h
  rw [List.getElem?_map, List.getElem?_range hi] at h
  cases h
  exact ⟨hi, rfl⟩
theorem rgN_lt {hi c : Int} {k : Nat} (hc : 0 < c) (hk : k < rgN 0 hi c) : (k : Int) * c < hi := by
  have h : (D.int (0 + (k : Int) * c)) ∈ rgD 0 (rgN 0 hi c) c := List.mem_map.mpr ⟨k, List.mem_range.mpr hk, rfl⟩
  obtain ⟨j, h1, h2⟩ := mem_rg3 hc h
  injection h2 with h2
  have : (k : Int) * c = (j : Int) * c := by omega
  omega
theorem eqD_nil (k k' : LK) (l : List D) : eqD (.lst k l) (.lst k' []) = decide (l = []) := by
  unfold eqD
  rw [D.py, D.py, PyData.eqv]
  cases l with
  | nil => rfl
  | cons d l => simp [pyL, PyData.eqvAll]
theorem flat_int (i : Int) : flatP (.int i) := ⟨rfl, by simp [D.py, PyData.depth]⟩
theorem real_eq_ints (k : LK) (l : List Int) : real.eq (.lst k (l.map D.int)) = true := real_eq_lst fun d hd => by
  obtain ⟨q, _, rfl⟩ := List.mem_map.mp hd
  exact flat_int q
theorem cutD_mid (ds : List D) (a b : Nat) : cutD ds (some (a : Int)) (some (b : Int)) = (ds.drop a).take (b - a) := by
  unfold cutD
  rw [HT.sIx_nat, HT.sIx_nat]
  rcases Nat.le_total a ds.length with h | h
  · rw [Nat.min_eq_left h]
    rcases Nat.le_total b ds.length with h2 | h2
    · rw [Nat.min_eq_left h2]
    · rw [Nat.min_eq_right h2, List.take_of_length_le (by simp), List.take_of_length_le (by simp; omega)]
  · rw [Nat.min_eq_right h, List.drop_of_length_le h, List.drop_of_length_le (Nat.le_refl _)]; simp
/-- a comprehension, by its parts -/
theorem lc_of {C : Ctx} {elt : E} {tg : Tg} {it : Itr} {cond : Eo} {own : List Nat} {env e1 e2 : Env} {p : List D × List D} {t : Tm} (hit : evIt C it env = some (.ok p e1)) (hlen : C.L.len p.2.length = true) (hc : loopC C elt tg cond own p.2 e1 = some (.ok t e2)) : evE C (.lc elt tg it cond own) env = some (.ok t (putBack it.bk p.1 e2)) := by
  rw [evE_lc, hit]
  simp only [bnd, hlen, hc, cond_true]
theorem scn_inv {f : Env → Out Tm} {tg : Tg} (P : Env → Prop) : ∀ (items : List D) (env : Env), P env → (∀ d ∈ items, ∀ env, P env → ∃ e2 t e3, setTg tg d env = some e2 ∧ f e2 = some (.ok t e3) ∧ asB e3 t = some false ∧ P e3) → ∃ e', scnGo f tg items env = some (false, e') ∧ P e'
  | [], env, h, _ => ⟨env, rfl, h⟩
  | d :: ds, env, h, k => by
    obtain ⟨e2, t, e3, h1, h2, h3, h4⟩ := k d List.mem_cons_self env h
    obtain ⟨e', h5, h6⟩ := scn_inv P ds e3 h4 fun x hx => k x (List.mem_cons_of_mem _ hx)
    refine ⟨e', ?_, h6⟩
    rw [scnGo, h1]
    dsimp only
    rw [h2]
    dsimp only
    rw [h3]
    exact h5
end
end TV
namespace TV
open PySem PySem.Spec PyProof.Rows L2
def c_law_whole_0 : Ss := (.cons (.ret (.and (.isi (.bo 0) .int) (.not (.isi (.bo 0) .bool)))) .nil)
def f_law_whole_0 : Fn := ⟨"_law_whole", ["found"], 1, c_law_whole_0⟩
def c_law_divisor_0 : Ss := (.cons (.whl (.cmp .NotEq (.bo 1) (.lit (.int 0))) (.cons (.par 0 1 (.fr 1) (.bin .Mod (.bo 0) (.bo 1))) .nil)) (.cons (.kil [1]) (.cons (.ret (.bi .abs (.cons (.bo 0) .nil))) .nil)))
def f_law_divisor_0 : Fn := ⟨"_law_divisor", ["one", "other"], 2, c_law_divisor_0⟩
def c_law_cell_0 : Ss := (.cons (.ifs (.cmp .Lt (.bo 1) (.bi .len (.cons (.bo 0) .nil))) (.cons (.ret (.ix (.bo 0) (.bo 1))) .nil) .nil) (.cons (.ret (.bin .Add (.bin .Add (.bin .Mult (.bin .Mult (.lit (.int 5)) (.bo 1)) (.bo 1)) (.bin .Mult (.lit (.int 9)) (.bo 1))) (.lit (.int 2)))) .nil))
def f_law_cell_0 : Fn := ⟨"_law_cell", ["script", "k"], 2, c_law_cell_0⟩
def c_law_low_0 : Ss := (.cons (.asg 2 (.bi .abs (.cons (.bo 0) .nil))) (.cons (.asg 3 (.fr 1)) (.cons (.whl (.cmp .Gt (.bo 3) (.lit (.int 0))) (.cons (.par 2 3 (.fr 3) (.bin .Mod (.bo 2) (.bo 3))) .nil)) (.cons (.kil [3]) (.cons (.ret (.tup (.cons (.bin .FloorDiv (.bo 0) (.bo 2)) (.cons (.bin .FloorDiv (.bo 1) (.bo 2)) .nil)))) .nil)))))
def f_law_low_0 : Fn := ⟨"_law_low", ["top", "bottom", "one", "other"], 2, c_law_low_0⟩
def c_law_fraction_0 : Ss := (.cons (.ifs (.cmp .Eq (.bin .Mod (.bo 0) (.lit (.int 4))) (.lit (.int 0))) (.cons (.ret (.call "_law_low" (.cons (.bin .Sub (.bin .Mod (.bin .Mult (.bin .FloorDiv (.bo 0) (.lit (.int 4))) (.bin .Add (.bin .Mult (.lit (.int 1732050807568877293)) (.bin .Pow (.lit (.int 10)) (.lit (.int 11)))) (.lit (.int 31)))) (.bin .Add (.bin .Mult (.lit (.int 2)) (.bin .Pow (.lit (.int 10)) (.lit (.int 30)))) (.lit (.int 1)))) (.bin .Pow (.lit (.int 10)) (.lit (.int 30)))) (.cons (.bo 1) .nil)))) .nil) .nil) (.cons (.ret (.call "_law_low" (.cons (.bin .Sub (.bin .Mod (.bin .FloorDiv (.bo 0) (.lit (.int 4))) (.lit (.int 41))) (.lit (.int 20))) (.cons (.bin .Add (.lit (.int 1)) (.bin .Mod (.bin .FloorDiv (.bo 0) (.lit (.int 164))) (.lit (.int 12)))) .nil)))) .nil))
def f_law_fraction_0 : Fn := ⟨"_law_fraction", ["cell", "share"], 2, c_law_fraction_0⟩
def c_law_divisor_1 : Ss := (.cons (.asg 0 (.bi .abs (.cons (.bo 0) .nil))) (.cons (.whl (.cmp .Gt (.bo 1) (.lit (.int 0))) (.cons (.par 0 1 (.fr 1) (.bin .Mod (.bo 0) (.bo 1))) .nil)) (.cons (.kil [1]) (.cons (.ret (.mv 0)) .nil))))
def f_law_divisor_1 : Fn := ⟨"_law_divisor", ["one", "other"], 2, c_law_divisor_1⟩
def c_law_low_1 : Ss := (.cons (.asg 2 (.call "_law_divisor" (.cons (.bo 0) (.cons (.bo 1) .nil)))) (.cons (.ret (.tup (.cons (.bin .FloorDiv (.bo 0) (.bo 2)) (.cons (.bin .FloorDiv (.bo 1) (.bo 2)) .nil)))) .nil))
def f_law_low_1 : Fn := ⟨"_law_low", ["top", "bottom", "many"], 2, c_law_low_1⟩
def c_law_sum_0 : Ss := (.cons (.ret (.call "_law_low" (.cons (.bin .Add (.bin .Mult (.ix (.bo 0) (.lit (.int 0))) (.ix (.bo 1) (.lit (.int 1)))) (.bin .Mult (.ix (.bo 1) (.lit (.int 0))) (.ix (.bo 0) (.lit (.int 1))))) (.cons (.bin .Mult (.ix (.bo 0) (.lit (.int 1))) (.ix (.bo 1) (.lit (.int 1)))) .nil)))) .nil)
def f_law_sum_0 : Fn := ⟨"_law_sum", ["one", "other"], 2, c_law_sum_0⟩
def c_law_miss_0 : Ss := (.cons (.ifs (.cmp .Lt (.bin .Mod (.bo 0) (.lit (.int 5))) (.lit (.int 3))) (.cons (.ret (.ix (.lst (.cons (.tup (.cons (.lit (.int 0)) (.cons (.lit (.int 1)) .nil))) (.cons (.fr 1) (.cons (.tup (.cons (.bin .Sub (.lit (.int 0)) (.ix (.bo 1) (.lit (.int 0)))) (.cons (.ix (.bo 1) (.lit (.int 1))) .nil))) (.cons (.call "_law_low" (.cons (.ix (.bo 1) (.lit (.int 0))) (.cons (.bin .Mult (.lit (.int 2)) (.ix (.bo 1) (.lit (.int 1)))) .nil))) .nil))))) (.bin .Mod (.bin .FloorDiv (.bo 0) (.lit (.int 5))) (.lit (.int 4))))) .nil) .nil) (.cons (.ret (.call "_law_low" (.cons (.bin .Sub (.bin .Mod (.bin .FloorDiv (.bo 0) (.lit (.int 5))) (.lit (.int 41))) (.lit (.int 20))) (.cons (.bin .Add (.lit (.int 1)) (.bin .Mod (.bin .FloorDiv (.bo 0) (.lit (.int 205))) (.lit (.int 6)))) .nil)))) .nil))
def f_law_miss_0 : Fn := ⟨"_law_miss", ["cell", "size"], 2, c_law_miss_0⟩
def c_law_most_0 : Ss := (.cons (.asg 1 (.tup (.cons (.lit (.int 0)) (.cons (.lit (.int 1)) .nil)))) (.cons (.frs (.many [2, 3]) (.list (.fr 0)) (.cons (.ifs (.cmp .Gt (.bin .Mult (.bi .abs (.cons (.bo 2) .nil)) (.ix (.bo 1) (.lit (.int 1)))) (.bin .Mult (.ix (.bo 1) (.lit (.int 0))) (.bo 3))) (.cons (.asg 1 (.tup (.cons (.bi .abs (.cons (.bo 2) .nil)) (.cons (.fr 3) .nil)))) .nil) .nil) (.cons (.kil [2, 3]) .nil))) (.cons (.kil [2, 3]) (.cons (.ret (.mv 1)) .nil))))
def f_law_most_0 : Fn := ⟨"_law_most", ["misses", "most", "top", "bottom"], 1, c_law_most_0⟩
def c_law_side_0 : Ss := (.cons (.ret (.bin .Sub (.bi .int (.cons (.cmp .Gt (.bo 0) (.lit (.int 0))) .nil)) (.bi .int (.cons (.cmp .Lt (.bo 0) (.lit (.int 0))) .nil)))) .nil)
def f_law_side_0 : Fn := ⟨"_law_side", ["number"], 1, c_law_side_0⟩
def c_law_far_pulls_0 : Ss := (.cons (.asg 2 (.call "_law_most" (.cons (.bo 0) .nil))) (.cons (.asg 3 (.lst .nil)) (.cons (.frs (.one 4) (.rg1 (.bi .len (.cons (.bo 0) .nil))) (.cons (.asg 6 (.lit (.int 0))) (.cons (.ifs (.and (.cmp .Gt (.ix (.bo 2) (.lit (.int 0))) (.lit (.int 0))) (.cmp .Eq (.tup (.cons (.bi .abs (.cons (.ix (.ix (.bo 0) (.bo 4)) (.lit (.int 0))) .nil)) (.cons (.ix (.ix (.bo 0) (.bo 4)) (.lit (.int 1))) .nil))) (.bo 2))) (.cons (.asg 6 (.bin .Add (.lit (.int 1)) (.bin .Mod (.bin .FloorDiv (.bo 1) (.bin .Add (.bo 4) (.lit (.int 2)))) (.lit (.int 4))))) .nil) .nil) (.cons (.mut0 .append 3 (.cons (.fr 6) .nil)) (.cons (.kil [4, 6]) .nil))))) (.cons (.kil [4, 6]) (.cons (.asg 5 (.bi .max (.cons (.lit (.int 1)) (.cons (.bi .sum (.cons (.bo 3) .nil)) .nil)))) (.cons (.ret (.lc (.call "_law_low" (.cons (.bin .Mult (.call "_law_side" (.cons (.ix (.ix (.bo 0) (.bo 4)) (.lit (.int 0))) .nil)) (.ix (.bo 3) (.bo 4))) (.cons (.bo 5) .nil))) (.one 4) (.rg1 (.bi .len (.cons (.bo 0) .nil))) .no [4])) .nil))))))
def f_law_far_pulls_0 : Fn := ⟨"_law_far_pulls", ["misses", "cell", "most", "parts", "k", "whole", "part"], 2, c_law_far_pulls_0⟩
def c_law_pulls_0 : Ss := (.cons (.ifs (.cmp .Eq (.bin .Mod (.bo 2) (.lit (.int 3))) (.lit (.int 0))) (.cons (.ret (.call "_law_far_pulls" (.cons (.fr 1) (.cons (.bin .FloorDiv (.bo 2) (.lit (.int 3))) .nil)))) .nil) .nil) (.cons (.asg 3 (.lst .nil)) (.cons (.frs (.one 4) (.rg1 (.bi .len (.cons (.bo 1) .nil))) (.cons (.asg 5 (.ix (.ix (.bo 0) (.bo 4)) (.lit (.int 2)))) (.cons (.ifs (.cmp .Eq (.bin .Mod (.bo 2) (.lit (.int 3))) (.lit (.int 1))) (.cons (.mut0 .append 3 (.cons (.call "_law_low" (.cons (.bin .Mult (.bo 5) (.ix (.ix (.bo 1) (.bo 4)) (.lit (.int 0)))) (.cons (.ix (.ix (.bo 1) (.bo 4)) (.lit (.int 1))) .nil))) .nil)) .nil) (.cons (.ifs (.cmp .NotEq (.ix (.ix (.bo 1) (.bo 4)) (.lit (.int 0))) (.lit (.int 0))) (.cons (.mut0 .append 3 (.cons (.tup (.cons (.bin .Mult (.call "_law_side" (.cons (.ix (.ix (.bo 1) (.bo 4)) (.lit (.int 0))) .nil)) (.bo 5)) (.cons (.lit (.int 1)) .nil))) .nil)) .nil) (.cons (.mut0 .append 3 (.cons (.call "_law_low" (.cons (.bin .Sub (.bin .Mod (.bin .FloorDiv (.bo 2) (.bin .Add (.bo 4) (.lit (.int 5)))) (.bin .Add (.bin .Mult (.lit (.int 4)) (.bo 5)) (.lit (.int 1)))) (.bin .Mult (.lit (.int 2)) (.bo 5))) (.cons (.lit (.int 2)) .nil))) .nil)) .nil)) .nil)) (.cons (.kil [4, 5]) .nil)))) (.cons (.kil [4, 5]) (.cons (.ret (.mv 3)) .nil)))))
def f_law_pulls_0 : Fn := ⟨"_law_pulls", ["marks", "misses", "cell", "pulls", "k", "weight"], 3, c_law_pulls_0⟩
def c_law_cell_at_0 : Ss := (.cons (.ifs (.cmp .Lt (.bo 1) (.bi .len (.cons (.bo 0) .nil))) (.cons (.ret (.ix (.bo 0) (.bo 1))) .nil) .nil) (.cons (.ret (.lit (.int 0))) .nil))
def f_law_cell_at_0 : Fn := ⟨"_law_cell_at", ["script", "k"], 2, c_law_cell_at_0⟩
def c_law_low_2 : Ss := (.cons (.asg 2 (.bi .abs (.cons (.bo 0) .nil))) (.cons (.asg 3 (.bi .abs (.cons (.bo 1) .nil))) (.cons (.whl (.cmp .Gt (.bo 3) (.lit (.int 0))) (.cons (.par 2 3 (.fr 3) (.bin .Mod (.bo 2) (.bo 3))) .nil)) (.cons (.kil [3]) (.cons (.ifs (.cmp .Lt (.bo 1) (.lit (.int 0))) (.cons (.asg 2 (.neg (.bo 2))) .nil) .nil) (.cons (.ret (.tup (.cons (.bin .FloorDiv (.bo 0) (.bo 2)) (.cons (.bin .FloorDiv (.bo 1) (.bo 2)) .nil)))) .nil))))))
def f_law_low_2 : Fn := ⟨"_law_low", ["top", "bottom", "one", "other"], 2, c_law_low_2⟩
def c_law_drawn_0 : Ss := (.cons (.asg 1 (.bin .FloorDiv (.bo 0) (.lit (.int 4)))) (.cons (.ifs (.cmp .Lt (.bin .Mod (.bo 0) (.lit (.int 4))) (.lit (.int 2))) (.cons (.ret (.call "_law_low" (.cons (.bin .Sub (.bin .Mod (.bo 1) (.lit (.int 13))) (.lit (.int 6))) (.cons (.bin .Add (.lit (.int 1)) (.bin .Mod (.bin .FloorDiv (.bo 1) (.lit (.int 13))) (.lit (.int 4)))) .nil)))) .nil) .nil) (.cons (.ifs (.cmp .Eq (.bin .Mod (.bo 0) (.lit (.int 4))) (.lit (.int 2))) (.cons (.ret (.call "_law_low" (.cons (.bin .Sub (.bin .Mod (.bo 1) (.bin .Add (.bin .Mult (.lit (.int 2)) (.bin .Pow (.lit (.int 10)) (.lit (.int 12)))) (.lit (.int 1)))) (.bin .Pow (.lit (.int 10)) (.lit (.int 12)))) (.cons (.bin .Add (.lit (.int 1)) (.bin .Mod (.bin .FloorDiv (.bo 1) (.lit (.int 7))) (.lit (.int 12)))) .nil)))) .nil) .nil) (.cons (.ret (.call "_law_low" (.cons (.bin .Sub (.bin .Mod (.bin .Mult (.bo 1) (.lit (.int 48271))) (.bin .Add (.bin .Mult (.lit (.int 2)) (.bin .Pow (.lit (.int 10)) (.lit (.int 12)))) (.lit (.int 1)))) (.bin .Pow (.lit (.int 10)) (.lit (.int 12)))) (.cons (.bin .Add (.lit (.int 1)) (.bin .Mod (.bo 1) (.bin .Pow (.lit (.int 10)) (.lit (.int 6))))) .nil)))) .nil))))
def f_law_drawn_0 : Fn := ⟨"_law_drawn", ["cell", "rest"], 1, c_law_drawn_0⟩
def c_law_times_0 : Ss := (.cons (.ret (.call "_law_low" (.cons (.bin .Mult (.ix (.bo 0) (.lit (.int 0))) (.ix (.bo 1) (.lit (.int 0)))) (.cons (.bin .Mult (.ix (.bo 0) (.lit (.int 1))) (.ix (.bo 1) (.lit (.int 1)))) .nil)))) .nil)
def f_law_times_0 : Fn := ⟨"_law_times", ["one", "other"], 2, c_law_times_0⟩
def c_law_height_0 : Ss := (.cons (.asg 2 (.tup (.cons (.lit (.int 0)) (.cons (.lit (.int 1)) .nil)))) (.cons (.asg 3 (.tup (.cons (.lit (.int 1)) (.cons (.lit (.int 1)) .nil)))) (.cons (.frs (.one 4) (.list (.fr 0)) (.cons (.asg 2 (.call "_law_sum" (.cons (.bo 2) (.cons (.call "_law_times" (.cons (.bo 4) (.cons (.bo 3) .nil))) .nil)))) (.cons (.asg 3 (.call "_law_times" (.cons (.bo 3) (.cons (.bo 1) .nil)))) (.cons (.kil [4]) .nil)))) (.cons (.kil [3, 4]) (.cons (.ret (.mv 2)) .nil)))))
def f_law_height_0 : Fn := ⟨"_law_height", ["numbers", "x", "found", "power", "number"], 2, c_law_height_0⟩
def c_law_drawn_1 : Ss := (.cons (.asg 1 (.bin .FloorDiv (.bo 0) (.lit (.int 4)))) (.cons (.ifs (.cmp .Lt (.bin .Mod (.bo 0) (.lit (.int 4))) (.lit (.int 3))) (.cons (.ret (.call "_law_low" (.cons (.bin .Sub (.bin .Mod (.bo 1) (.lit (.int 13))) (.lit (.int 6))) (.cons (.bin .Add (.lit (.int 1)) (.bin .Mod (.bin .FloorDiv (.bo 1) (.lit (.int 13))) (.lit (.int 4)))) .nil)))) .nil) .nil) (.cons (.ret (.call "_law_low" (.cons (.bin .Sub (.bin .Mod (.bin .Mult (.bo 1) (.lit (.int 48271))) (.bin .Add (.bin .Mult (.lit (.int 2)) (.bin .Pow (.lit (.int 10)) (.lit (.int 9)))) (.lit (.int 1)))) (.bin .Pow (.lit (.int 10)) (.lit (.int 9)))) (.cons (.bin .Add (.lit (.int 1)) (.bin .Mod (.bo 1) (.lit (.int 100)))) .nil)))) .nil)))
def f_law_drawn_1 : Fn := ⟨"_law_drawn", ["cell", "rest"], 1, c_law_drawn_1⟩
def c_law_height_1 : Ss := (.cons (.asg 2 (.tup (.cons (.lit (.int 0)) (.cons (.lit (.int 1)) .nil)))) (.cons (.frs (.one 3) (.rev (.fr 0)) (.cons (.asg 2 (.call "_law_sum" (.cons (.call "_law_times" (.cons (.bo 2) (.cons (.bo 1) .nil))) (.cons (.bo 3) .nil)))) (.cons (.kil [3]) .nil))) (.cons (.kil [3]) (.cons (.ret (.mv 2)) .nil))))
def f_law_height_1 : Fn := ⟨"_law_height", ["numbers", "x", "found", "number"], 2, c_law_height_1⟩
def c_law_is_fractions_0 : Ss := (.cons (.ifs (.or (.not (.isi (.bo 0) .list)) (.cmp .NotEq (.bi .len (.cons (.bo 0) .nil)) (.bo 1))) (.cons (.ret (.lit (.bl false))) .nil) .nil) (.cons (.frs (.one 2) (.list (.fr 0)) (.cons (.ifs (.or (.not (.isi (.bo 2) .tuple)) (.or (.cmp .NotEq (.bi .len (.cons (.bo 2) .nil)) (.lit (.int 2))) (.or (.isi (.ix (.bo 2) (.lit (.int 0))) .bool) (.isi (.ix (.bo 2) (.lit (.int 1))) .bool)))) (.cons (.ret (.lit (.bl false))) .nil) .nil) (.cons (.ifs (.or (.not (.isi (.ix (.bo 2) (.lit (.int 0))) .int)) (.or (.not (.isi (.ix (.bo 2) (.lit (.int 1))) .int)) (.or (.cmp .Lt (.ix (.bo 2) (.lit (.int 1))) (.lit (.int 1))) (.cmp .NotEq (.call "_law_low" (.cons (.ix (.bo 2) (.lit (.int 0))) (.cons (.ix (.bo 2) (.lit (.int 1))) .nil))) (.bo 2))))) (.cons (.ret (.lit (.bl false))) .nil) .nil) (.cons (.kil [2]) .nil)))) (.cons (.kil [2]) (.cons (.ret (.lit (.bl true))) .nil))))
def f_law_is_fractions_0 : Fn := ⟨"_law_is_fractions", ["found", "many", "x"], 2, c_law_is_fractions_0⟩
def c_law_even_0 : Ss := (.cons (.frs (.one 3) (.rg1 (.bin .Add (.bo 2) (.lit (.int 1)))) (.cons (.asg 4 (.tup (.cons (.lit (.int 0)) (.cons (.lit (.int 1)) .nil)))) (.cons (.frs (.one 5) (.rg1 (.bi .len (.cons (.bo 0) .nil))) (.cons (.asg 6 (.ix (.bo 1) (.bo 5))) (.cons (.frs (.one 7) (.rg1 (.bo 3)) (.cons (.asg 6 (.call "_law_times" (.cons (.bo 6) (.cons (.ix (.ix (.bo 0) (.bo 5)) (.lit (.int 0))) .nil)))) (.cons (.kil [7]) .nil))) (.cons (.kil [7]) (.cons (.asg 4 (.call "_law_sum" (.cons (.bo 4) (.cons (.bo 6) .nil)))) (.cons (.kil [5, 6, 7]) .nil)))))) (.cons (.kil [5, 6, 7]) (.cons (.ifs (.cmp .NotEq (.bo 4) (.tup (.cons (.lit (.int 0)) (.cons (.lit (.int 1)) .nil)))) (.cons (.ret (.lit (.bl false))) .nil) .nil) (.cons (.kil [3, 4, 5, 6, 7]) .nil)))))) (.cons (.kil [3, 4, 5, 6, 7]) (.cons (.ret (.lit (.bl true))) .nil)))
def f_law_even_0 : Fn := ⟨"_law_even", ["marks", "pulls", "bend", "times", "comes", "k", "part", "j"], 3, c_law_even_0⟩
def c_law_sign_0 : Ss := (.cons (.ret (.bin .Sub (.bi .int (.cons (.cmp .Gt (.ix (.bo 0) (.lit (.int 0))) (.lit (.int 0))) .nil)) (.bi .int (.cons (.cmp .Lt (.ix (.bo 0) (.lit (.int 0))) (.lit (.int 0))) .nil)))) .nil)
def f_law_sign_0 : Fn := ⟨"_law_sign", ["x"], 1, c_law_sign_0⟩
def c_law_number_0 : Ss := (.cons (.ifs (.cmp .Eq (.bin .Mod (.bo 0) (.lit (.int 3))) (.lit (.int 0))) (.cons (.ret (.call "_law_low" (.cons (.bin .Sub (.bin .Mod (.bin .Mult (.bin .FloorDiv (.bo 0) (.lit (.int 3))) (.lit (.int 48271))) (.bin .Add (.bin .Mult (.lit (.int 2)) (.bin .Pow (.lit (.int 10)) (.lit (.int 9)))) (.lit (.int 1)))) (.bin .Pow (.lit (.int 10)) (.lit (.int 9)))) (.cons (.bin .Add (.lit (.int 1)) (.bin .Mod (.bin .FloorDiv (.bo 0) (.lit (.int 3))) (.lit (.int 7)))) .nil)))) .nil) .nil) (.cons (.ret (.call "_law_low" (.cons (.bin .Sub (.bin .Mod (.bin .FloorDiv (.bo 0) (.lit (.int 3))) (.lit (.int 13))) (.lit (.int 6))) (.cons (.bin .Add (.lit (.int 1)) (.bin .Mod (.bin .FloorDiv (.bo 0) (.lit (.int 39))) (.lit (.int 3)))) .nil)))) .nil))
def f_law_number_0 : Fn := ⟨"_law_number", ["cell"], 1, c_law_number_0⟩
def c_law_cell_1 : Ss := (.cons (.ifs (.cmp .Lt (.bo 1) (.bi .len (.cons (.bo 0) .nil))) (.cons (.ret (.ix (.bo 0) (.bo 1))) .nil) .nil) (.cons (.ret (.bin .Add (.bin .Add (.bin .Mult (.bin .Mult (.lit (.int 11)) (.bo 1)) (.bo 1)) (.bin .Mult (.lit (.int 5)) (.bo 1))) (.lit (.int 2)))) .nil))
def f_law_cell_1 : Fn := ⟨"_law_cell", ["script", "k"], 2, c_law_cell_1⟩
def c_law_low_3 : Ss := (.cons (.asg 2 (.call "_law_divisor" (.cons (.bo 0) (.cons (.bo 1) .nil)))) (.cons (.ifs (.cmp .Lt (.bo 1) (.lit (.int 0))) (.cons (.asg 2 (.neg (.bo 2))) .nil) .nil) (.cons (.ret (.tup (.cons (.bin .FloorDiv (.bo 0) (.bo 2)) (.cons (.bin .FloorDiv (.bo 1) (.bo 2)) .nil)))) .nil)))
def f_law_low_3 : Fn := ⟨"_law_low", ["top", "bottom", "many"], 2, c_law_low_3⟩
def c_law_plus_0 : Ss := (.cons (.ret (.call "_law_low" (.cons (.bin .Add (.bin .Mult (.ix (.bo 0) (.lit (.int 0))) (.ix (.bo 1) (.lit (.int 1)))) (.bin .Mult (.ix (.bo 1) (.lit (.int 0))) (.ix (.bo 0) (.lit (.int 1))))) (.cons (.bin .Mult (.ix (.bo 0) (.lit (.int 1))) (.ix (.bo 1) (.lit (.int 1)))) .nil)))) .nil)
def f_law_plus_0 : Fn := ⟨"_law_plus", ["one", "other"], 2, c_law_plus_0⟩
def c_law_lists_0 : Ss := (.cons (.ifs (.or (.not (.isi (.bo 0) .tuple)) (.cmp .NotEq (.bi .len (.cons (.bo 0) .nil)) (.lit (.int 2)))) (.cons (.ret (.lit (.bl false))) .nil) .nil) (.cons (.frs (.many [2, 3]) (.zip (.cons (.fr 0) (.cons (.fr 1) .nil))) (.cons (.ifs (.or (.not (.isi (.bo 2) .list)) (.cmp .NotEq (.bi .len (.cons (.bo 2) .nil)) (.bo 3))) (.cons (.ret (.lit (.bl false))) .nil) .nil) (.cons (.frs (.one 4) (.list (.fr 2)) (.cons (.ifs (.or (.not (.isi (.bo 4) .tuple)) (.or (.cmp .NotEq (.bi .len (.cons (.bo 4) .nil)) (.lit (.int 2))) (.or (.not (.call "_law_whole" (.cons (.ix (.bo 4) (.lit (.int 0))) .nil))) (.not (.call "_law_whole" (.cons (.ix (.bo 4) (.lit (.int 1))) .nil)))))) (.cons (.ret (.lit (.bl false))) .nil) .nil) (.cons (.ifs (.or (.cmp .Lt (.ix (.bo 4) (.lit (.int 1))) (.lit (.int 1))) (.cmp .NotEq (.call "_law_divisor" (.cons (.ix (.bo 4) (.lit (.int 0))) (.cons (.ix (.bo 4) (.lit (.int 1))) .nil))) (.lit (.int 1)))) (.cons (.ret (.lit (.bl false))) .nil) .nil) (.cons (.kil [4]) .nil)))) (.cons (.kil [4]) (.cons (.kil [2, 3, 4]) .nil))))) (.cons (.kil [2, 3, 4]) (.cons (.ret (.lit (.bl true))) .nil))))
def f_law_lists_0 : Fn := ⟨"_law_lists", ["found", "sizes", "some", "size", "one"], 2, c_law_lists_0⟩
def c_law_height_2 : Ss := (.cons (.ifs (.cmp .Eq (.bo 1) (.lit (.int 0))) (.cons (.ret (.tup (.cons (.bin .Mod (.bo 0) (.lit (.int 4))) (.cons (.lit (.int 1)) .nil)))) .nil) .nil) (.cons (.ifs (.cmp .Eq (.bo 1) (.lit (.int 1))) (.cons (.ret (.call "_law_low" (.cons (.bin .Sub (.bin .Mod (.bin .Mult (.bo 0) (.lit (.int 27644437))) (.bin .Add (.bin .Mult (.lit (.int 2)) (.bin .Pow (.lit (.int 10)) (.lit (.int 12)))) (.lit (.int 1)))) (.bin .Pow (.lit (.int 10)) (.lit (.int 12)))) (.cons (.bin .Add (.lit (.int 1)) (.bin .Mod (.bo 0) (.lit (.int 7)))) .nil)))) .nil) .nil) (.cons (.asg 4 (.call "_law_plus" (.cons (.tup (.cons (.ix (.bo 3) (.lit (.int 0))) (.cons (.lit (.int 1)) .nil))) (.cons (.call "_law_times" (.cons (.tup (.cons (.ix (.bo 3) (.lit (.int 1))) (.cons (.bin .Add (.lit (.int 1)) (.bo 1)) .nil))) (.cons (.bo 2) .nil))) .nil)))) (.cons (.ifs (.cmp .Eq (.bin .Mod (.bo 0) (.lit (.int 3))) (.lit (.int 0))) (.cons (.asg 4 (.call "_law_plus" (.cons (.bo 4) (.cons (.tup (.cons (.bin .Sub (.bin .Mod (.bin .FloorDiv (.bo 0) (.lit (.int 3))) (.lit (.int 21))) (.lit (.int 10))) (.cons (.lit (.int 1)) .nil))) .nil)))) .nil) .nil) (.cons (.ret (.mv 4)) .nil)))))
def f_law_height_2 : Fn := ⟨"_law_height", ["cell", "shape", "place", "lean", "height"], 4, c_law_height_2⟩
def c_law_marks_0 : Ss := (.cons (.asg 2 (.bin .Mod (.call "_law_cell" (.cons (.bo 0) (.cons (.lit (.int 1)) .nil))) (.lit (.int 4)))) (.cons (.asg 3 (.lst (.cons (.bin .Sub (.bin .Mod (.bin .FloorDiv (.call "_law_cell" (.cons (.bo 0) (.cons (.lit (.int 1)) .nil))) (.lit (.int 4))) (.lit (.int 13))) (.lit (.int 6))) (.cons (.bin .Sub (.bin .Mod (.call "_law_cell" (.cons (.bo 0) (.cons (.lit (.int 2)) .nil))) (.lit (.int 13))) (.lit (.int 6))) .nil)))) (.cons (.asg 4 (.ix (.lst (.cons (.lit (.int 1)) (.cons (.lit (.int 1)) (.cons (.lit (.int 6)) (.cons (.bin .Add (.lit (.int 1)) (.bin .Mod (.bin .FloorDiv (.call "_law_cell" (.cons (.bo 0) (.cons (.lit (.int 2)) .nil))) (.lit (.int 13))) (.bin .Pow (.lit (.int 10)) (.lit (.int 6))))) .nil))))) (.bin .Mod (.bin .FloorDiv (.call "_law_cell" (.cons (.bo 0) (.cons (.lit (.int 0)) .nil))) (.lit (.int 60))) (.lit (.int 4))))) (.cons (.asg 5 (.bin .Sub (.bin .Mod (.bin .FloorDiv (.call "_law_cell" (.cons (.bo 0) (.cons (.lit (.int 2)) .nil))) (.lit (.int 13))) (.lit (.int 41))) (.lit (.int 20)))) (.cons (.asg 6 (.lst .nil)) (.cons (.frs (.one 7) (.rg1 (.bin .Add (.lit (.int 1)) (.bin .Mod (.call "_law_cell" (.cons (.bo 0) (.cons (.lit (.int 0)) .nil))) (.bo 1)))) (.cons (.asg 5 (.bin .Add (.bin .Add (.bo 5) (.lit (.int 1))) (.bin .Mod (.call "_law_cell" (.cons (.bo 0) (.cons (.bin .Add (.lit (.int 4)) (.bin .Mult (.lit (.int 3)) (.bo 7))) .nil))) (.ix (.lst (.cons (.lit (.int 3)) (.cons (.lit (.int 9)) (.cons (.bin .Pow (.lit (.int 10)) (.lit (.int 6))) .nil)))) (.bin .Mod (.call "_law_cell" (.cons (.bo 0) (.cons (.lit (.int 3)) .nil))) (.lit (.int 3))))))) (.cons (.asg 8 (.call "_law_low" (.cons (.bo 5) (.cons (.bo 4) .nil)))) (.cons (.asg 9 (.call "_law_cell" (.cons (.bo 0) (.cons (.bin .Add (.lit (.int 6)) (.bin .Mult (.lit (.int 3)) (.bo 7))) .nil)))) (.cons (.asg 9 (.bin .Add (.lit (.int 1)) (.bin .Mod (.bo 9) (.ix (.lst (.cons (.lit (.int 1)) (.cons (.lit (.int 3)) (.cons (.bin .Pow (.lit (.int 10)) (.lit (.int 9))) .nil)))) (.bin .Mod (.bin .FloorDiv (.call "_law_cell" (.cons (.bo 0) (.cons (.lit (.int 3)) .nil))) (.lit (.int 3))) (.lit (.int 3))))))) (.cons (.mut0 .append 6 (.cons (.tup (.cons (.fr 8) (.cons (.call "_law_height" (.cons (.call "_law_cell" (.cons (.bo 0) (.cons (.bin .Add (.lit (.int 5)) (.bin .Mult (.lit (.int 3)) (.bo 7))) .nil))) (.cons (.bo 2) (.cons (.bo 8) (.cons (.bo 3) .nil))))) (.cons (.fr 9) .nil)))) .nil)) (.cons (.kil [7, 8, 9]) .nil))))))) (.cons (.kil [5, 7, 8, 9]) (.cons (.ret (.mv 6)) .nil))))))))
def f_law_marks_0 : Fn := ⟨"_law_marks", ["script", "most", "shape", "lean", "bottom", "at", "marks", "k", "place", "weight"], 2, c_law_marks_0⟩
def c_law_fair_0 : Ss := (.cons (.asg 3 (.call "_law_plus" (.cons (.ix (.bo 1) (.lit (.int 0))) (.cons (.call "_law_times" (.cons (.ix (.bo 1) (.lit (.int 1))) (.cons (.ix (.bo 0) (.lit (.int 0))) .nil))) .nil)))) (.cons (.asg 4 (.bin .Sub (.bin .Mult (.ix (.ix (.bo 0) (.lit (.int 1))) (.lit (.int 0))) (.ix (.bo 3) (.lit (.int 1)))) (.bin .Mult (.ix (.bo 3) (.lit (.int 0))) (.ix (.ix (.bo 0) (.lit (.int 1))) (.lit (.int 1)))))) (.cons (.ifs (.cmp .Gt (.bo 4) (.lit (.int 0))) (.cons (.ret (.cmp .Eq (.bo 2) (.tup (.cons (.ix (.bo 0) (.lit (.int 2))) (.cons (.lit (.int 1)) .nil))))) .nil) .nil) (.cons (.ifs (.cmp .Lt (.bo 4) (.lit (.int 0))) (.cons (.ret (.cmp .Eq (.bo 2) (.tup (.cons (.neg (.ix (.bo 0) (.lit (.int 2)))) (.cons (.lit (.int 1)) .nil))))) .nil) .nil) (.cons (.ret (.cmp .LtE (.bi .abs (.cons (.ix (.bo 2) (.lit (.int 0))) .nil)) (.bin .Mult (.ix (.bo 0) (.lit (.int 2))) (.ix (.bo 2) (.lit (.int 1)))))) .nil)))))
def f_law_fair_0 : Fn := ⟨"_law_fair", ["mark", "numbers", "pull", "height", "side"], 3, c_law_fair_0⟩
def c_law_sum_1 : Ss := (.cons (.asg 2 (.lit (.int 0))) (.cons (.asg 3 (.lit (.int 1))) (.cons (.unp [4, 5] (.fr 1)) (.cons (.frs (.many [6, 7, 8]) (.list (.fr 0)) (.cons (.asg 9 (.bin .Mult (.ix (.bo 5) (.lit (.int 1))) (.ix (.bo 6) (.lit (.int 1))))) (.cons (.asg 10 (.bin .Add (.bin .Mult (.ix (.bo 4) (.lit (.int 0))) (.bo 9)) (.bin .Mult (.bin .Mult (.ix (.bo 5) (.lit (.int 0))) (.ix (.bo 6) (.lit (.int 0)))) (.ix (.bo 4) (.lit (.int 1)))))) (.cons (.asg 9 (.bin .Mult (.bo 9) (.ix (.bo 4) (.lit (.int 1))))) (.cons (.asg 11 (.bin .Sub (.bin .Mult (.ix (.bo 7) (.lit (.int 0))) (.bo 9)) (.bin .Mult (.bo 10) (.ix (.bo 7) (.lit (.int 1)))))) (.cons (.asg 9 (.bin .Mult (.bo 9) (.ix (.bo 7) (.lit (.int 1))))) (.cons (.asg 2 (.bin .Add (.bin .Mult (.bo 2) (.bo 9)) (.bin .Mult (.bin .Mult (.bo 8) (.bi .abs (.cons (.bo 11) .nil))) (.bo 3)))) (.cons (.asg 3 (.bin .Mult (.bo 3) (.bo 9))) (.cons (.kil [6, 7, 8, 9, 10, 11]) .nil))))))))) (.cons (.kil [6, 7, 8, 9, 10, 11]) (.cons (.ret (.tup (.cons (.fr 2) (.cons (.fr 3) .nil)))) .nil))))))
def f_law_sum_1 : Fn := ⟨"_law_sum", ["marks", "numbers", "top", "bottom", "a", "b", "place", "height", "weight", "low", "laid", "miss"], 2, c_law_sum_1⟩
def c_law_less_0 : Ss := (.cons (.ret (.cmp .Lt (.bin .Mult (.ix (.bo 0) (.lit (.int 0))) (.ix (.bo 1) (.lit (.int 1)))) (.bin .Mult (.ix (.bo 1) (.lit (.int 0))) (.ix (.bo 0) (.lit (.int 1)))))) .nil)
def f_law_less_0 : Fn := ⟨"_law_less", ["one", "other"], 2, c_law_less_0⟩
def c_law_number_1 : Ss := (.cons (.ifs (.cmp .Eq (.bin .Mod (.bo 0) (.lit (.int 2))) (.lit (.int 1))) (.cons (.ret (.call "_law_low" (.cons (.bin .Sub (.bin .Mod (.bin .FloorDiv (.bo 0) (.lit (.int 2))) (.lit (.int 25))) (.lit (.int 12))) (.cons (.bin .Add (.lit (.int 1)) (.bin .Mod (.bin .FloorDiv (.bo 0) (.lit (.int 50))) (.lit (.int 9)))) .nil)))) .nil) .nil) (.cons (.ret (.call "_law_low" (.cons (.bin .Sub (.bin .Mod (.bin .Mult (.bo 0) (.lit (.int 27644437))) (.bin .Add (.bin .Mult (.lit (.int 2)) (.bin .Pow (.lit (.int 10)) (.lit (.int 12)))) (.lit (.int 1)))) (.bin .Pow (.lit (.int 10)) (.lit (.int 12)))) (.cons (.bin .Add (.lit (.int 1)) (.bin .Mod (.bin .FloorDiv (.bo 0) (.lit (.int 2))) (.lit (.int 9)))) .nil)))) .nil))
def f_law_number_1 : Fn := ⟨"_law_number", ["cell"], 1, c_law_number_1⟩
def c_law_fractions_0 : Ss := (.cons (.ifs (.or (.not (.isi (.bo 0) .list)) (.cmp .NotEq (.bi .len (.cons (.bo 0) .nil)) (.bo 1))) (.cons (.ret (.lit (.bl false))) .nil) .nil) (.cons (.frs (.one 2) (.list (.fr 0)) (.cons (.ifs (.or (.not (.isi (.bo 2) .tuple)) (.cmp .NotEq (.bi .len (.cons (.bo 2) .nil)) (.lit (.int 2)))) (.cons (.ret (.lit (.bl false))) .nil) .nil) (.cons (.frs (.one 3) (.tupi (.fr 2)) (.cons (.ifs (.or (.not (.isi (.bo 3) .int)) (.isi (.bo 3) .bool)) (.cons (.ret (.lit (.bl false))) .nil) .nil) (.cons (.kil [3]) .nil))) (.cons (.kil [3]) (.cons (.ifs (.or (.cmp .Lt (.ix (.bo 2) (.lit (.int 1))) (.lit (.int 1))) (.cmp .NotEq (.call "_law_divisor" (.cons (.ix (.bo 2) (.lit (.int 0))) (.cons (.ix (.bo 2) (.lit (.int 1))) .nil))) (.lit (.int 1)))) (.cons (.ret (.lit (.bl false))) .nil) .nil) (.cons (.kil [2, 3]) .nil)))))) (.cons (.kil [2, 3]) (.cons (.ret (.lit (.bl true))) .nil))))
def f_law_fractions_0 : Fn := ⟨"_law_fractions", ["found", "many", "one", "number"], 2, c_law_fractions_0⟩
def c_law_holds_0 : Ss := (.cons (.asg 2 (.tup (.cons (.lit (.int 0)) (.cons (.lit (.int 1)) .nil)))) (.cons (.frs (.one 3) (.rg1 (.bi .len (.cons (.bo 0) .nil))) (.cons (.ifs (.and (.cmp .Gt (.bo 3) (.lit (.int 0))) (.call "_law_less" (.cons (.ix (.bo 0) (.bo 3)) (.cons (.ix (.bo 0) (.bin .Sub (.bo 3) (.lit (.int 1)))) .nil)))) (.cons (.ret (.lit (.bl false))) .nil) .nil) (.cons (.asg 2 (.call "_law_sum" (.cons (.bo 2) (.cons (.ix (.bo 1) (.bo 3)) .nil)))) (.cons (.ifs (.cmp .Lt (.ix (.bo 2) (.lit (.int 0))) (.lit (.int 0))) (.cons (.ret (.lit (.bl false))) .nil) .nil) (.cons (.ifs (.and (.cmp .Gt (.ix (.bo 2) (.lit (.int 0))) (.lit (.int 0))) (.or (.cmp .Eq (.bin .Add (.bo 3) (.lit (.int 1))) (.bi .len (.cons (.bo 0) .nil))) (.cmp .NotEq (.ix (.bo 0) (.bin .Add (.bo 3) (.lit (.int 1)))) (.ix (.bo 0) (.bo 3))))) (.cons (.ret (.lit (.bl false))) .nil) .nil) (.cons (.kil [3]) .nil)))))) (.cons (.kil [2, 3]) (.cons (.ret (.lit (.bl true))) .nil))))
def f_law_holds_0 : Fn := ⟨"_law_holds", ["row", "pulls", "come", "k"], 2, c_law_holds_0⟩
def c_law_marks_1 : Ss := (.cons (.asg 1 (.bin .Add (.lit (.int 1)) (.bin .Mod (.call "_law_cell" (.cons (.bo 0) (.cons (.lit (.int 0)) .nil))) (.lit (.int 12))))) (.cons (.ifs (.cmp .Eq (.bin .Mod (.bin .FloorDiv (.call "_law_cell" (.cons (.bo 0) (.cons (.lit (.int 0)) .nil))) (.lit (.int 12))) (.lit (.int 16))) (.lit (.int 1))) (.cons (.asg 1 (.bin .Add (.lit (.int 13)) (.bin .Mod (.bin .FloorDiv (.call "_law_cell" (.cons (.bo 0) (.cons (.lit (.int 0)) .nil))) (.lit (.int 192))) (.lit (.int 18))))) .nil) .nil) (.cons (.asg 2 (.bin .Mult (.lst (.cons (.lit (.int 0)) .nil)) (.bo 1))) (.cons (.asg 3 (.bin .Mult (.lst (.cons (.lit (.int 1)) .nil)) (.bo 1))) (.cons (.frs (.many [9, 10]) (.enum (.sl (.bo 0) (.so (.lit (.int 3))) (.so (.lit (.int 63))))) (.cons (.set1 2 (.bin .Mod (.bo 9) (.bo 1)) (.bin .Sub (.bin .Add (.ix (.bo 2) (.bin .Mod (.bo 9) (.bo 1))) (.bin .Mod (.bo 10) (.lit (.int 9)))) (.lit (.int 4)))) (.cons (.set1 3 (.bin .Mod (.bo 9) (.bo 1)) (.bin .Add (.ix (.bo 3) (.bin .Mod (.bo 9) (.bo 1))) (.bin .Mod (.bin .FloorDiv (.bo 10) (.lit (.int 9))) (.lit (.int 3))))) (.cons (.kil [9, 10]) .nil)))) (.cons (.kil [9, 10]) (.cons (.asg 4 (.bin .Add (.lit (.int 1)) (.bin .Mod (.call "_law_cell" (.cons (.bo 0) (.cons (.lit (.int 1)) .nil))) (.lit (.int 12))))) (.cons (.asg 5 (.lit (.int 1))) (.cons (.asg 6 (.lit (.int 0))) (.cons (.ifs (.cmp .Eq (.bin .Mod (.bin .FloorDiv (.call "_law_cell" (.cons (.bo 0) (.cons (.lit (.int 1)) .nil))) (.lit (.int 12))) (.lit (.int 3))) (.lit (.int 1))) (.cons (.asg 5 (.bin .Add (.lit (.int 1)) (.bin .Mod (.call "_law_cell" (.cons (.bo 0) (.cons (.lit (.int 2)) .nil))) (.bin .Pow (.lit (.int 10)) (.lit (.int 20)))))) (.cons (.asg 6 (.bin .Sub (.bin .Mod (.bin .Mult (.bin .FloorDiv (.call "_law_cell" (.cons (.bo 0) (.cons (.lit (.int 1)) .nil))) (.lit (.int 36))) (.lit (.int 1732050807568877293))) (.bin .Add (.bin .Mult (.lit (.int 2)) (.bin .Pow (.lit (.int 10)) (.lit (.int 30)))) (.lit (.int 1)))) (.bin .Pow (.lit (.int 10)) (.lit (.int 30))))) .nil)) .nil) (.cons (.asg 7 (.bin .Sub (.bin .Mod (.call "_law_cell" (.cons (.bo 0) (.cons (.lit (.int 2)) .nil))) (.lit (.int 41))) (.lit (.int 20)))) (.cons (.ifs (.cmp .Eq (.bin .Mod (.call "_law_cell" (.cons (.bo 0) (.cons (.lit (.int 2)) .nil))) (.lit (.int 5))) (.lit (.int 3))) (.cons (.set1 3 (.bin .Mod (.bo 7) (.bo 1)) (.bin .Add (.lit (.int 1)) (.bin .Mod (.bin .Mult (.bin .FloorDiv (.call "_law_cell" (.cons (.bo 0) (.cons (.lit (.int 2)) .nil))) (.lit (.int 5))) (.lit (.int 1732050807568877293))) (.bin .Pow (.lit (.int 10)) (.lit (.int 20)))))) .nil) .nil) (.cons (.asg 8 (.lst .nil)) (.cons (.frs (.one 9) (.rg1 (.bo 1)) (.cons (.mut0 .append 8 (.cons (.tup (.cons (.tup (.cons (.bin .Add (.bo 7) (.bin .Mult (.lit (.int 2)) (.bo 9))) (.cons (.lit (.int 1)) .nil))) (.cons (.call "_law_low" (.cons (.bin .Add (.bin .Mult (.bo 5) (.ix (.bo 2) (.bo 9))) (.bo 6)) (.cons (.bin .Add (.bo 4) (.bin .Mult (.bo 9) (.bin .Mod (.bo 7) (.lit (.int 2))))) .nil))) (.cons (.ix (.bo 3) (.bo 9)) .nil)))) .nil)) (.cons (.kil [9]) .nil))) (.cons (.kil [9]) (.cons (.ret (.mv 8)) .nil))))))))))))))))
def f_law_marks_1 : Fn := ⟨"_law_marks", ["script", "many", "tops", "weights", "bottom", "times", "far", "start", "marks", "k", "cell"], 1, c_law_marks_1⟩
def c_law_worth_0 : Ss := (.cons (.asg 3 (.tup (.cons (.lit (.int 0)) (.cons (.lit (.int 1)) .nil)))) (.cons (.frs (.one 4) (.rg1 (.bi .len (.cons (.bo 2) .nil))) (.cons (.unp [5, 6] (.call "_law_sum" (.cons (.ix (.ix (.bo 1) (.bo 4)) (.lit (.int 1))) (.cons (.tup (.cons (.bin .Sub (.lit (.int 0)) (.ix (.ix (.bo 2) (.bo 4)) (.lit (.int 0)))) (.cons (.ix (.ix (.bo 2) (.bo 4)) (.lit (.int 1))) .nil))) .nil)))) (.cons (.ifs (.cmp .Eq (.bo 0) (.lit (.str "far"))) (.cons (.ifs (.call "_law_less" (.cons (.bo 3) (.cons (.tup (.cons (.bi .abs (.cons (.bo 5) .nil)) (.cons (.fr 6) .nil))) .nil))) (.cons (.asg 3 (.tup (.cons (.bi .abs (.cons (.bo 5) .nil)) (.cons (.fr 6) .nil)))) .nil) .nil) .nil) (.cons (.asg 3 (.call "_law_sum" (.cons (.bo 3) (.cons (.tup (.cons (.bin .Mult (.ix (.ix (.bo 1) (.bo 4)) (.lit (.int 2))) (.bi .abs (.cons (.bo 5) .nil))) (.cons (.fr 6) .nil))) .nil)))) .nil)) (.cons (.kil [4, 5, 6]) .nil)))) (.cons (.kil [4, 5, 6]) (.cons (.ret (.mv 3)) .nil))))
def f_law_worth_0 : Fn := ⟨"_law_worth", ["kind", "marks", "row", "worth", "k", "top", "bottom"], 3, c_law_worth_0⟩
def c_law_cell_2 : Ss := (.cons (.ifs (.cmp .Lt (.bo 1) (.bi .len (.cons (.bo 0) .nil))) (.cons (.ret (.ix (.bo 0) (.bo 1))) .nil) .nil) (.cons (.ret (.bin .Add (.bin .Add (.bin .Mult (.bin .Mult (.lit (.int 5)) (.bo 1)) (.bo 1)) (.bin .Mult (.lit (.int 11)) (.bo 1))) (.lit (.int 2)))) .nil))
def f_law_cell_2 : Fn := ⟨"_law_cell", ["script", "k"], 2, c_law_cell_2⟩
def c_law_lowest_0 : Ss := (.cons (.asg 2 (.bi .abs (.cons (.bo 0) .nil))) (.cons (.asg 3 (.fr 1)) (.cons (.whl (.cmp .Gt (.bo 3) (.lit (.int 0))) (.cons (.par 2 3 (.fr 3) (.bin .Mod (.bo 2) (.bo 3))) .nil)) (.cons (.kil [3]) (.cons (.ret (.tup (.cons (.bin .FloorDiv (.bo 0) (.bo 2)) (.cons (.bin .FloorDiv (.bo 1) (.bo 2)) .nil)))) .nil)))))
def f_law_lowest_0 : Fn := ⟨"_law_lowest", ["top", "bottom", "one", "other"], 2, c_law_lowest_0⟩
def c_law_whole_1 : Ss := (.cons (.ret (.and (.isi (.bo 0) .int) (.not (.isi (.bo 0) .bool)))) .nil)
def f_law_whole_1 : Fn := ⟨"_law_whole", ["thing"], 1, c_law_whole_1⟩
def c_law_fraction_1 : Ss := (.cons (.ret (.and (.isi (.bo 0) .tuple) (.and (.cmp .Eq (.bi .len (.cons (.bo 0) .nil)) (.lit (.int 2))) (.and (.call "_law_whole" (.cons (.ix (.bo 0) (.lit (.int 0))) .nil)) (.call "_law_whole" (.cons (.ix (.bo 0) (.lit (.int 1))) .nil)))))) .nil)
def f_law_fraction_1 : Fn := ⟨"_law_fraction", ["found"], 1, c_law_fraction_1⟩
def c_law_heights_0 : Ss := (.cons (.asg 2 (.lst .nil)) (.cons (.frs (.one 3) (.rg1 (.bo 1)) (.cons (.asg 4 (.call "_law_cell" (.cons (.bo 0) (.cons (.bin .Add (.lit (.int 4)) (.bin .Mult (.lit (.int 2)) (.bo 3))) .nil)))) (.cons (.ifs (.cmp .Eq (.bin .Mod (.call "_law_cell" (.cons (.bo 0) (.cons (.lit (.int 1)) .nil))) (.lit (.int 3))) (.lit (.int 1))) (.cons (.mut0 .append 2 (.cons (.bin .Sub (.bin .Mod (.bin .Mult (.bo 4) (.lit (.int 48271))) (.bin .Add (.bin .Mult (.lit (.int 2)) (.bin .Pow (.lit (.int 10)) (.lit (.int 12)))) (.lit (.int 1)))) (.bin .Pow (.lit (.int 10)) (.lit (.int 12)))) .nil)) .nil) (.cons (.mut0 .append 2 (.cons (.bin .Sub (.bin .Mod (.bo 4) (.lit (.int 9))) (.lit (.int 4))) .nil)) .nil)) (.cons (.kil [3, 4]) .nil)))) (.cons (.kil [3, 4]) (.cons (.ret (.mv 2)) .nil))))
def f_law_heights_0 : Fn := ⟨"_law_heights", ["script", "many", "heights", "k", "cell"], 2, c_law_heights_0⟩
def c_law_weights_0 : Ss := (.cons (.asg 2 (.lst .nil)) (.cons (.frs (.one 3) (.rg1 (.bo 1)) (.cons (.asg 4 (.call "_law_cell" (.cons (.bo 0) (.cons (.bin .Add (.lit (.int 5)) (.bin .Mult (.lit (.int 2)) (.bo 3))) .nil)))) (.cons (.ifs (.cmp .Eq (.bin .Mod (.call "_law_cell" (.cons (.bo 0) (.cons (.lit (.int 1)) .nil))) (.lit (.int 4))) (.lit (.int 1))) (.cons (.mut0 .append 2 (.cons (.bin .Add (.lit (.int 1)) (.bin .Mod (.bin .Mult (.bo 4) (.lit (.int 16811))) (.bin .Pow (.lit (.int 10)) (.lit (.int 9))))) .nil)) .nil) (.cons (.mut0 .append 2 (.cons (.bin .Add (.lit (.int 1)) (.bin .Mod (.bo 4) (.lit (.int 4)))) .nil)) .nil)) (.cons (.kil [3, 4]) .nil)))) (.cons (.kil [3, 4]) (.cons (.ret (.mv 2)) .nil))))
def f_law_weights_0 : Fn := ⟨"_law_weights", ["script", "many", "weights", "k", "cell"], 2, c_law_weights_0⟩
def c_law_bottom_0 : Ss := (.cons (.ifs (.cmp .Eq (.bin .Mod (.call "_law_cell" (.cons (.bo 0) (.cons (.lit (.int 2)) .nil))) (.lit (.int 4))) (.lit (.int 1))) (.cons (.ret (.bin .Add (.lit (.int 1)) (.bin .Mod (.bin .Mult (.call "_law_cell" (.cons (.bo 0) (.cons (.lit (.int 2)) .nil))) (.lit (.int 69623))) (.bin .Pow (.lit (.int 10)) (.lit (.int 6)))))) .nil) .nil) (.cons (.ret (.bin .Add (.lit (.int 1)) (.bin .Mod (.bin .FloorDiv (.call "_law_cell" (.cons (.bo 0) (.cons (.lit (.int 2)) .nil))) (.lit (.int 4))) (.lit (.int 12))))) .nil))
def f_law_bottom_0 : Fn := ⟨"_law_bottom", ["script"], 1, c_law_bottom_0⟩
def c_law_marks_2 : Ss := (.cons (.asg 4 (.bin .Sub (.bin .Mod (.call "_law_cell" (.cons (.bo 0) (.cons (.lit (.int 3)) .nil))) (.lit (.int 41))) (.lit (.int 20)))) (.cons (.asg 5 (.lst .nil)) (.cons (.frs (.one 6) (.rg1 (.bi .len (.cons (.bo 1) .nil))) (.cons (.asg 4 (.bin .Add (.bin .Add (.bo 4) (.lit (.int 1))) (.bin .Mod (.bin .FloorDiv (.call "_law_cell" (.cons (.bo 0) (.cons (.bin .Add (.lit (.int 5)) (.bin .Mult (.lit (.int 2)) (.bo 6))) .nil))) (.lit (.int 4))) (.lit (.int 7))))) (.cons (.asg 7 (.call "_law_lowest" (.cons (.bo 4) (.cons (.bin .Add (.lit (.int 1)) (.bin .Mod (.bin .FloorDiv (.call "_law_cell" (.cons (.bo 0) (.cons (.lit (.int 3)) .nil))) (.lit (.int 41))) (.lit (.int 6)))) .nil)))) (.cons (.mut0 .append 5 (.cons (.tup (.cons (.fr 7) (.cons (.call "_law_lowest" (.cons (.ix (.bo 1) (.bo 6)) (.cons (.bo 3) .nil))) (.cons (.ix (.bo 2) (.bo 6)) .nil)))) .nil)) (.cons (.kil [6, 7]) .nil))))) (.cons (.kil [4, 6, 7]) (.cons (.ret (.mv 5)) .nil)))))
def f_law_marks_2 : Fn := ⟨"_law_marks", ["script", "heights", "weights", "bottom", "place", "found", "k", "spot"], 4, c_law_marks_2⟩
def c_law_joined_0 : Ss := (.cons (.ifs (.cmp .Eq (.bo 0) (.lit (.str "far"))) (.cons (.ifs (.call "_law_less" (.cons (.bo 1) (.cons (.bo 2) .nil))) (.cons (.ret (.mv 2)) .nil) .nil) (.cons (.ret (.mv 1)) .nil)) .nil) (.cons (.ret (.call "_law_lowest" (.cons (.bin .Add (.bin .Mult (.ix (.bo 1) (.lit (.int 0))) (.ix (.bo 2) (.lit (.int 1)))) (.bin .Mult (.ix (.bo 2) (.lit (.int 0))) (.ix (.bo 1) (.lit (.int 1))))) (.cons (.bin .Mult (.ix (.bo 1) (.lit (.int 1))) (.ix (.bo 2) (.lit (.int 1)))) .nil)))) .nil))
def f_law_joined_0 : Fn := ⟨"_law_joined", ["kind", "one", "other"], 3, c_law_joined_0⟩
def c_law_missed_0 : Ss := (.cons (.asg 3 (.tup (.cons (.lit (.int 0)) (.cons (.lit (.int 1)) .nil)))) (.cons (.frs (.many [4, 5]) (.zip (.cons (.fr 1) (.cons (.fr 2) .nil))) (.cons (.asg 6 (.bi .abs (.cons (.bin .Sub (.bin .Mult (.ix (.ix (.bo 4) (.lit (.int 1))) (.lit (.int 0))) (.ix (.bo 5) (.lit (.int 1)))) (.bin .Mult (.ix (.bo 5) (.lit (.int 0))) (.ix (.ix (.bo 4) (.lit (.int 1))) (.lit (.int 1))))) .nil))) (.cons (.asg 7 (.bin .Mult (.ix (.ix (.bo 4) (.lit (.int 1))) (.lit (.int 1))) (.ix (.bo 5) (.lit (.int 1))))) (.cons (.ifs (.cmp .Eq (.bo 0) (.lit (.str "far"))) (.cons (.asg 3 (.call "_law_joined" (.cons (.bo 0) (.cons (.bo 3) (.cons (.call "_law_lowest" (.cons (.bo 6) (.cons (.bo 7) .nil))) .nil))))) .nil) .nil) (.cons (.ifs (.cmp .Eq (.bo 0) (.lit (.str "sum"))) (.cons (.asg 3 (.call "_law_joined" (.cons (.bo 0) (.cons (.bo 3) (.cons (.call "_law_lowest" (.cons (.bin .Mult (.ix (.bo 4) (.lit (.int 2))) (.bo 6)) (.cons (.bo 7) .nil))) .nil))))) .nil) .nil) (.cons (.ifs (.cmp .Eq (.bo 0) (.lit (.str "square"))) (.cons (.asg 3 (.call "_law_joined" (.cons (.bo 0) (.cons (.bo 3) (.cons (.call "_law_lowest" (.cons (.bin .Mult (.bin .Mult (.ix (.bo 4) (.lit (.int 2))) (.bo 6)) (.bo 6)) (.cons (.bin .Mult (.bo 7) (.bo 7)) .nil))) .nil))))) .nil) .nil) (.cons (.kil [4, 5, 6, 7]) .nil))))))) (.cons (.kil [4, 5, 6, 7]) (.cons (.ret (.mv 3)) .nil))))
def f_law_missed_0 : Fn := ⟨"_law_missed", ["kind", "some", "row", "total", "mark", "height", "top", "bottom"], 3, c_law_missed_0⟩
def c_law_steps_0 : Ss := (.cons (.asg 1 (.lit (.int 0))) (.cons (.frs (.one 2) (.rg2 (.lit (.int 1)) (.bi .len (.cons (.bo 0) .nil))) (.cons (.asg 1 (.bin .Add (.bo 1) (.bi .int (.cons (.cmp .NotEq (.ix (.bo 0) (.bo 2)) (.ix (.bo 0) (.bin .Sub (.bo 2) (.lit (.int 1))))) .nil)))) (.cons (.kil [2]) .nil))) (.cons (.kil [2]) (.cons (.ret (.mv 1)) .nil))))
def f_law_steps_0 : Fn := ⟨"_law_steps", ["row", "total", "k"], 1, c_law_steps_0⟩
def c_law_is_low_0 : Ss := (.cons (.asg 3 (.lit .non)) (.cons (.frs (.one 4) (.list (.fr 2)) (.cons (.frs (.one 5) (.rg1 (.bi .len (.cons (.bo 1) .nil))) (.cons (.asg 6 (.lst (.cons (.ix (.ix (.bo 1) (.bo 5)) (.lit (.int 0))) .nil))) (.cons (.ifs (.cmp .IsNot (.bo 3) (.lit .non)) (.cons (.asg 6 (.bin .Add (.bo 6) (.lc (.call "_law_joined" (.cons (.bo 0) (.cons (.ix (.bo 3) (.bin .Sub (.bo 8) (.lit (.int 1)))) (.cons (.ix (.ix (.bo 1) (.bo 5)) (.bo 8)) .nil)))) (.one 8) (.rg2 (.lit (.int 1)) (.bin .Add (.bo 5) (.lit (.int 1)))) .no [8]))) .nil) .nil) (.cons (.frs (.one 7) (.list (.fr 6)) (.cons (.ifs (.call "_law_less" (.cons (.bo 7) (.cons (.ix (.bo 4) (.bo 5)) .nil))) (.cons (.ret (.lit (.bl false))) .nil) .nil) (.cons (.kil [7]) .nil))) (.cons (.kil [7]) (.cons (.kil [5, 6, 7, 8]) .nil)))))) (.cons (.kil [5, 6, 7, 8]) (.cons (.asg 3 (.mv 4)) (.cons (.kil [4, 5, 6, 7, 8]) .nil))))) (.cons (.kil [3, 4, 5, 6, 7, 8]) (.cons (.ret (.lit (.bl true))) .nil))))
def f_law_is_low_0 : Fn := ⟨"_law_is_low", ["kind", "costs", "table", "ahead", "entries", "i", "bounds", "bound", "h"], 3, c_law_is_low_0⟩
def c_law_sign_1 : Ss := (.cons (.asg 1 (.lit (.str " !\"#$&'()*+,-./0123456789:;<=>?@ABCDEFGHIJKLMNOPQRSTUVWXYZ[\\]^_`"))) (.cons (.asg 1 (.bin .Add (.bo 1) (.lit (.str "abcdefghijklmnopqrstuvwxyz{|}~\n\t")))) (.cons (.ret (.ix (.bo 1) (.bin .Mod (.bo 0) (.lit (.int 96))))) .nil)))
def f_law_sign_1 : Fn := ⟨"_law_sign", ["cell", "signs"], 1, c_law_sign_1⟩
def c_law_written_0 : Ss := (.cons (.ifs (.cmp .Eq (.ix (.bo 0) (.lit (.int 1))) (.lit (.int 1))) (.cons (.ret (.bi .str (.cons (.ix (.bo 0) (.lit (.int 0))) .nil))) .nil) .nil) (.cons (.ret (.bin .Add (.bin .Add (.bi .str (.cons (.ix (.bo 0) (.lit (.int 0))) .nil)) (.lit (.str "/"))) (.bi .str (.cons (.ix (.bo 0) (.lit (.int 1))) .nil)))) .nil))
def f_law_written_0 : Fn := ⟨"_law_written", ["x"], 1, c_law_written_0⟩
def c_law_word_0 : Ss := (.cons (.ret (.bin .Add (.bin .Add (.bin .Add (.bin .Add (.call "_law_written" (.cons (.ix (.bo 0) (.lit (.int 0))) .nil)) (.lit (.str ":"))) (.call "_law_written" (.cons (.ix (.bo 0) (.lit (.int 1))) .nil))) (.lit (.str "*"))) (.bi .str (.cons (.ix (.bo 0) (.lit (.int 2))) .nil)))) .nil)
def f_law_word_0 : Fn := ⟨"_law_word", ["mark"], 1, c_law_word_0⟩
def c_law_mixed_0 : Ss := (.cons (.ret (.bin .Mod (.bin .Mult (.bin .Mod (.bin .Add (.bin .Add (.bin .Add (.bin .Mult (.bo 0) (.lit (.int 39373))) (.bin .Mult (.bin .Mult (.lit (.int 104729)) (.bo 1)) (.bo 1))) (.bin .Mult (.lit (.int 7)) (.bo 1))) (.lit (.int 5))) (.lit (.int 2147483647))) (.lit (.int 48271))) (.lit (.int 2147483629)))) .nil)
def f_law_mixed_0 : Fn := ⟨"_law_mixed", ["cell", "k"], 2, c_law_mixed_0⟩
def c_law_some_0 : Ss := (.cons (.asg 3 (.lst .nil)) (.cons (.asg 4 (.bin .Sub (.bin .Mod (.call "_law_cell" (.cons (.bo 0) (.cons (.lit (.int 1)) .nil))) (.lit (.int 21))) (.lit (.int 10)))) (.cons (.frs (.one 5) (.rg3 (.bo 1) (.bi .max (.cons (.bin .Add (.bo 1) (.lit (.int 2))) (.cons (.bi .min (.cons (.bi .len (.cons (.bo 0) .nil)) (.cons (.bin .Add (.bo 1) (.bin .Mult (.lit (.int 2)) (.bo 2))) .nil))) .nil))) (.lit (.int 2))) (.cons (.asg 6 (.call "_law_cell" (.cons (.bo 0) (.cons (.bo 5) .nil)))) (.cons (.asg 7 (.call "_law_cell" (.cons (.bo 0) (.cons (.bin .Add (.bo 5) (.lit (.int 1))) .nil)))) (.cons (.asg 4 (.bin .Add (.bin .Add (.bo 4) (.lit (.int 1))) (.bin .Mod (.bo 7) (.lit (.int 3))))) (.cons (.asg 8 (.call "_law_lowest" (.cons (.bin .Sub (.bin .Mod (.bo 6) (.lit (.int 13))) (.lit (.int 6))) (.cons (.bin .Add (.lit (.int 1)) (.bin .Mod (.bin .FloorDiv (.bo 6) (.lit (.int 13))) (.lit (.int 3)))) .nil)))) (.cons (.ifs (.cmp .Eq (.bin .Mod (.call "_law_cell" (.cons (.bo 0) (.cons (.lit (.int 2)) .nil))) (.lit (.int 3))) (.lit (.int 1))) (.cons (.asg 8 (.call "_law_lowest" (.cons (.bin .Sub (.bin .Mod (.bin .Mult (.bo 6) (.lit (.int 48271))) (.bin .Add (.bin .Mult (.lit (.int 2)) (.bin .Pow (.lit (.int 10)) (.lit (.int 6)))) (.lit (.int 1)))) (.bin .Pow (.lit (.int 10)) (.lit (.int 6)))) (.cons (.bin .Add (.lit (.int 1)) (.bin .Mod (.bin .FloorDiv (.bo 7) (.lit (.int 12))) (.lit (.int 30)))) .nil)))) .nil) .nil) (.cons (.mut0 .append 3 (.cons (.tup (.cons (.call "_law_lowest" (.cons (.bo 4) (.cons (.bin .Add (.lit (.int 1)) (.bin .Mod (.bin .FloorDiv (.call "_law_cell" (.cons (.bo 0) (.cons (.lit (.int 1)) .nil))) (.lit (.int 21))) (.lit (.int 2)))) .nil))) (.cons (.fr 8) (.cons (.bin .Add (.lit (.int 1)) (.bin .Mod (.bin .FloorDiv (.bo 7) (.lit (.int 3))) (.lit (.int 4)))) .nil)))) .nil)) (.cons (.kil [5, 6, 7, 8]) .nil)))))))) (.cons (.kil [4, 5, 6, 7, 8]) (.cons (.ret (.mv 3)) .nil)))))
def f_law_some_0 : Fn := ⟨"_law_some", ["script", "start", "most", "some", "place", "k", "cell", "other", "height"], 3, c_law_some_0⟩
def c_law_number_2 : Ss := (.cons (.asg 1 (.sl (.bo 0) (.so (.bi .int (.cons (.cmp .Eq (.sl (.bo 0) .no (.so (.lit (.int 1)))) (.lit (.str "-"))) .nil))) .no)) (.cons (.ifs (.or (.cmp .Eq (.bo 1) (.lit (.str ""))) (.cmp .Gt (.bi .len (.cons (.bo 1) .nil)) (.lit (.int 2000)))) (.cons (.ret (.lit .non)) .nil) .nil) (.cons (.frs (.one 2) (.list (.fr 1)) (.cons (.ifs (.cmp .NotIn (.bo 2) (.lit (.str "0123456789"))) (.cons (.ret (.lit .non)) .nil) .nil) (.cons (.kil [2]) .nil))) (.cons (.kil [2]) (.cons (.ifs (.cmp .NotEq (.bi .str (.cons (.bi .int (.cons (.bo 0) .nil)) .nil)) (.bo 0)) (.cons (.ret (.lit .non)) .nil) .nil) (.cons (.ret (.bi .int (.cons (.bo 0) .nil))) .nil))))))
def f_law_number_2 : Fn := ⟨"_law_number", ["word", "figures", "sign"], 1, c_law_number_2⟩
def c_law_plus_1 : Ss := (.cons (.ret (.call "_law_lowest" (.cons (.bin .Add (.bin .Mult (.ix (.bo 0) (.lit (.int 0))) (.ix (.bo 1) (.lit (.int 1)))) (.bin .Mult (.ix (.bo 1) (.lit (.int 0))) (.ix (.bo 0) (.lit (.int 1))))) (.cons (.bin .Mult (.ix (.bo 0) (.lit (.int 1))) (.ix (.bo 1) (.lit (.int 1)))) .nil)))) .nil)
def f_law_plus_1 : Fn := ⟨"_law_plus", ["one", "other"], 2, c_law_plus_1⟩
def c_law_times_1 : Ss := (.cons (.ret (.call "_law_lowest" (.cons (.bin .Mult (.ix (.bo 0) (.lit (.int 0))) (.ix (.bo 1) (.lit (.int 0)))) (.cons (.bin .Mult (.ix (.bo 0) (.lit (.int 1))) (.ix (.bo 1) (.lit (.int 1)))) .nil)))) .nil)
def f_law_times_1 : Fn := ⟨"_law_times", ["one", "other"], 2, c_law_times_1⟩
def c_law_total_0 : Ss := (.cons (.asg 1 (.tup (.cons (.lit (.int 0)) (.cons (.lit (.int 1)) .nil)))) (.cons (.frs (.one 2) (.list (.fr 0)) (.cons (.asg 1 (.call "_law_plus" (.cons (.bo 1) (.cons (.bo 2) .nil)))) (.cons (.kil [2]) .nil))) (.cons (.kil [2]) (.cons (.ret (.mv 1)) .nil))))
def f_law_total_0 : Fn := ⟨"_law_total", ["some", "total", "x"], 1, c_law_total_0⟩
def c_law_misses_0 : Ss := (.cons (.ret (.lc (.call "_law_plus" (.cons (.ix (.bo 2) (.lit (.int 1))) (.cons (.tup (.cons (.neg (.ix (.bo 3) (.lit (.int 0)))) (.cons (.ix (.bo 3) (.lit (.int 1))) .nil))) .nil))) (.many [2, 3]) (.zip (.cons (.fr 0) (.cons (.fr 1) .nil))) .no [2, 3])) .nil)
def f_law_misses_0 : Fn := ⟨"_law_misses", ["some", "row", "mark", "x"], 2, c_law_misses_0⟩
def c_law_fair_1 : Ss := (.cons (.ifs (.cmp .Eq (.bo 0) (.lit (.str "square"))) (.cons (.ret (.cmp .Eq (.bo 3) (.lc (.call "_law_lowest" (.cons (.bin .Mult (.ix (.bo 11) (.lit (.int 2))) (.ix (.bo 6) (.lit (.int 0)))) (.cons (.ix (.bo 6) (.lit (.int 1))) .nil))) (.many [11, 6]) (.zip (.cons (.fr 1) (.cons (.fr 2) .nil))) .no [11, 6]))) .nil) .nil) (.cons (.asg 4 (.lc (.tup (.cons (.bi .abs (.cons (.ix (.bo 6) (.lit (.int 0))) .nil)) (.cons (.ix (.bo 6) (.lit (.int 1))) .nil))) (.one 6) (.list (.fr 2)) .no [6])) (.cons (.ifs (.cmp .Eq (.bo 0) (.lit (.str "sum"))) (.cons (.frs (.many [11, 8, 10]) (.zip (.cons (.fr 1) (.cons (.fr 2) (.cons (.fr 3) .nil)))) (.cons (.ifs (.cmp .Gt (.bi .abs (.cons (.ix (.bo 10) (.lit (.int 0))) .nil)) (.bin .Mult (.ix (.bo 11) (.lit (.int 2))) (.ix (.bo 10) (.lit (.int 1))))) (.cons (.ret (.lit (.bl false))) .nil) .nil) (.cons (.ifs (.or (.and (.cmp .Gt (.ix (.bo 8) (.lit (.int 0))) (.lit (.int 0))) (.cmp .NotEq (.bo 10) (.tup (.cons (.ix (.bo 11) (.lit (.int 2))) (.cons (.lit (.int 1)) .nil))))) (.and (.cmp .Lt (.ix (.bo 8) (.lit (.int 0))) (.lit (.int 0))) (.cmp .NotEq (.bo 10) (.tup (.cons (.neg (.ix (.bo 11) (.lit (.int 2)))) (.cons (.lit (.int 1)) .nil)))))) (.cons (.ret (.lit (.bl false))) .nil) .nil) (.cons (.kil [8, 10, 11]) .nil)))) (.cons (.kil [8, 10, 11]) (.cons (.ret (.lit (.bl true))) .nil))) .nil) (.cons (.asg 5 (.ix (.bo 4) (.lit (.int 0)))) (.cons (.frs (.one 6) (.list (.fr 4)) (.cons (.ifs (.call "_law_less" (.cons (.bo 5) (.cons (.bo 6) .nil))) (.cons (.asg 5 (.mv 6)) .nil) .nil) (.cons (.kil [6]) .nil))) (.cons (.kil [6]) (.cons (.frs (.many [8, 9, 10]) (.zip (.cons (.fr 2) (.cons (.fr 4) (.cons (.fr 3) .nil)))) (.cons (.ifs (.and (.cmp .NotEq (.ix (.bo 10) (.lit (.int 0))) (.lit (.int 0))) (.or (.cmp .NotEq (.bo 9) (.bo 5)) (.cmp .LtE (.bin .Mult (.ix (.bo 10) (.lit (.int 0))) (.ix (.bo 8) (.lit (.int 0)))) (.lit (.int 0))))) (.cons (.ret (.lit (.bl false))) .nil) .nil) (.cons (.kil [8, 9, 10]) .nil))) (.cons (.kil [8, 9, 10]) (.cons (.asg 7 (.call "_law_total" (.cons (.lc (.tup (.cons (.bi .abs (.cons (.ix (.bo 6) (.lit (.int 0))) .nil)) (.cons (.ix (.bo 6) (.lit (.int 1))) .nil))) (.one 6) (.list (.fr 3)) .no [6]) .nil))) (.cons (.ret (.or (.cmp .Eq (.bo 7) (.tup (.cons (.lit (.int 1)) (.cons (.lit (.int 1)) .nil)))) (.and (.cmp .Eq (.bo 7) (.tup (.cons (.lit (.int 0)) (.cons (.lit (.int 1)) .nil)))) (.cmp .Eq (.bo 5) (.tup (.cons (.lit (.int 0)) (.cons (.lit (.int 1)) .nil))))))) .nil))))))))))
def f_law_fair_1 : Fn := ⟨"_law_fair", ["kind", "some", "misses", "pulls", "sizes", "most", "x", "weight", "miss", "size", "pull", "mark"], 4, c_law_fair_1⟩
def c_law_height_3 : Ss := (.cons (.asg 2 (.tup (.cons (.lit (.int 0)) (.cons (.lit (.int 1)) .nil)))) (.cons (.frs (.one 3) (.list (.lrv (.bo 0))) (.cons (.asg 2 (.call "_law_plus" (.cons (.call "_law_times" (.cons (.bo 2) (.cons (.bo 1) .nil))) (.cons (.bo 3) .nil)))) (.cons (.kil [3]) .nil))) (.cons (.kil [3]) (.cons (.ret (.mv 2)) .nil))))
def f_law_height_3 : Fn := ⟨"_law_height", ["numbers", "x", "total", "number"], 2, c_law_height_3⟩
end TV
namespace TV
open PySem PySem.Spec PyProof.Rows L2
section
variable {exc : Xs} {glb : Str → Option D} {T : List Fn} {n : Nat}
theorem run_law_whole_0 (h : Has T f_law_whole_0) (i : Int) : run real exc glb T (n + 1) "_law_whole" [.int i] = some (.ok (.bl true)) := by
  rw [run_eq (f := "_law_whole") (d := f_law_whole_0) h rfl]
  simp only [c_law_whole_0, f_law_whole_0, evE_mv, evE_fr, evE_bo, evE_lit, evE_glb, evE_shr, evE_bin, evE_neg, evE_not, evE_and, evE_or, evE_cmp, evE_ix, evE_pth, evE_sl, evE_tup, evE_lst, evE_call, evE_bi, evE_isi, evE_pop, evE_lrv, evE_lrg, evEs_nil, evEs_cons, evEo_no, evEo_so, evC_no, evC_so, evIt_list, evIt_rg1, evIt_rg2, evIt_rg3, evIt_rev, evIt_zip, evIt_enum, evIt_str, evIt_brw, evIt_tupi, evS_asg, evS_unp, evS_par, evS_swp, evS_set1, evS_aug, evS_mut0, evS_ex, evS_ifs, evS_scn, evS_ret, evS_rse, evS_try1, evS_try2, evS_brk, evS_cnt, evS_pas, evS_kil, evSs_nil, evSs_cons, sq_nx, sq_rt, sq_bk, sq_ct, sq_ex, evS_whl, evS_frs, evE_lc, bnd, sbnd, obnd, raw, res, resL, rawL, valsL, anyBor, opBin, opCmp, opBi, biAbs, biInt, biStr, biLen, biList, biSum, biMax, biMin, biAll, Itr.bk, putBack, itemsOf, hkGo, boolsOf, opNeg, opNot, ixD, slD, litD, atom, isD, D.share, shareL, D.isHole, D.whole, wholeL, D.noOw, noOwL, D.noSh, noShL, stIx, owAt, asB, setTg, putE, mutD, mtAppend, mtExtend, mtPop, mtClear, mtInsert, kill, List.foldl_cons, List.foldl_nil, List.getElem?_cons_zero, List.getElem?_cons_succ, List.getElem?_nil, List.set_cons_zero, List.set_cons_succ, List.length_cons, List.length_nil, Bool.and_true, Bool.true_and, Bool.and_false, Bool.false_and, Bool.not_true, Bool.not_false, cond_true, cond_false, if_true, if_false, ite_true, ite_false, reduceIte, reduceCtorEq, Bool.false_eq_true, startE, List.replicate, List.append_eq, List.nil_append, List.cons_append, List.append_nil, fin, TV.atI0, TV.atI1, Option.bind_some, Option.map_some, Bool.and_self, Bool.or_self, Nat.reduceSub, Nat.reduceAdd, Nat.reduceEqDiff, Bool.not_eq_true, Bool.and_eq_true, decide_true, decide_false, real_eq_int, real_eq_bl, real_eq_non, real_eq_enc, real_eq_enc2, eqD_int, eqD_bl, eqD_pair, Int.reduceEq, Int.reduceToNat, Int.reduceLE, Int.reduceLT, nab10, nab2, castn0, castn1, castn2, castn3, castn4, castn5, Nat.reduceLT, and_self, and_true, true_and, and_false, false_and, if_pos trivial, not_true_eq_false, not_false_eq_true, Bool.or_true, Bool.or_false, Bool.true_or, Bool.false_or]
theorem div_loop {C : TV.Ctx} (hL : C.L = real) : ∀ (k : Nat) (a b : Int), b.natAbs = k →
    ∃ z r, whN (evE C (.cmp .NotEq (.bo 1) (.lit (.int 0)))) (evSs C (.cons (.par 0 1 (.fr 1) (.bin .Mod (.bo 0) (.bo 1))) .nil)) z [.int a, .int b] = some (.nx [.int r, .int 0]) ∧ r.natAbs = Int.gcd a b := by
  intro k
  induction k using Nat.strongRecOn with
  | _ k ih =>
  intro a b hb
  by_cases h0 : b = 0
  · subst h0
    obtain ⟨z, hz⟩ := whP_end (c := evE C (.cmp .NotEq (.bo 1) (.lit (.int 0)))) (b := evSs C (.cons (.par 0 1 (.fr 1) (.bin .Mod (.bo 0) (.bo 1))) .nil)) (env := [.int a, .int 0]) (e1 := [.int a, .int 0]) (t := .val (.bl false)) (by simp only [evE_mv, evE_fr, evE_bo, evE_lit, evE_glb, evE_shr, evE_bin, evE_neg, evE_not, evE_and, evE_or, evE_cmp, evE_ix, evE_pth, evE_sl, evE_tup, evE_lst, evE_call, evE_bi, evE_isi, evE_pop, evE_lrv, evE_lrg, evEs_nil, evEs_cons, evEo_no, evEo_so, evC_no, evC_so, evIt_list, evIt_rg1, evIt_rg2, evIt_rg3, evIt_rev, evIt_zip, evIt_enum, evIt_str, evIt_brw, evIt_tupi, evS_asg, evS_unp, evS_par, evS_swp, evS_set1, evS_aug, evS_mut0, evS_ex, evS_ifs, evS_scn, evS_ret, evS_rse, evS_try1, evS_try2, evS_brk, evS_cnt, evS_pas, evS_kil, evSs_nil, evSs_cons, sq_nx, sq_rt, sq_bk, sq_ct, sq_ex, evS_whl, evS_frs, evE_lc, bnd, sbnd, obnd, raw, res, resL, rawL, valsL, anyBor, opBin, opCmp, opBi, biAbs, biInt, biStr, biLen, biList, biSum, biMax, biMin, biAll, Itr.bk, putBack, itemsOf, hkGo, boolsOf, opNeg, opNot, ixD, slD, litD, atom, isD, D.share, shareL, D.isHole, D.whole, wholeL, D.noOw, noOwL, D.noSh, noShL, stIx, owAt, asB, setTg, putE, mutD, mtAppend, mtExtend, mtPop, mtClear, mtInsert, kill, List.foldl_cons, List.foldl_nil, List.getElem?_cons_zero, List.getElem?_cons_succ, List.getElem?_nil, List.set_cons_zero, List.set_cons_succ, List.length_cons, List.length_nil, Bool.and_true, Bool.true_and, Bool.and_false, Bool.false_and, Bool.not_true, Bool.not_false, cond_true, cond_false, if_true, if_false, ite_true, ite_false, reduceIte, reduceCtorEq, Bool.false_eq_true, startE, List.replicate, List.append_eq, List.nil_append, List.cons_append, List.append_nil, fin, TV.atI0, TV.atI1, Option.bind_some, Option.map_some, Bool.and_self, Bool.or_self, Nat.reduceSub, Nat.reduceAdd, Nat.reduceEqDiff, Bool.not_eq_true, Bool.and_eq_true, decide_true, decide_false, real_eq_int, real_eq_bl, real_eq_non, real_eq_enc, real_eq_enc2, eqD_int, eqD_bl, eqD_pair, Int.reduceEq, Int.reduceToNat, Int.reduceLE, Int.reduceLT, nab10, nab2, castn0, castn1, castn2, castn3, castn4, castn5, Nat.reduceLT, and_self, and_true, true_and, and_false, false_and, if_pos trivial, not_true_eq_false, not_false_eq_true, Bool.or_true, Bool.or_false, Bool.true_or, Bool.false_or, hL]) rfl
    exact ⟨z, a, hz, by simp⟩
  · have hl := fmod_lt a b h0
    obtain ⟨z, r, hz, hr⟩ := ih (Int.fmod a b).natAbs (by omega) b (Int.fmod a b) rfl
    rw [gcd_fmod] at hr
    obtain ⟨z, hz⟩ := whP_step (c := evE C (.cmp .NotEq (.bo 1) (.lit (.int 0)))) (b := evSs C (.cons (.par 0 1 (.fr 1) (.bin .Mod (.bo 0) (.bo 1))) .nil)) (env := [.int a, .int b]) (e1 := [.int a, .int b]) (t := .val (.bl true)) (e2 := [.int b, .int (Int.fmod a b)]) (by simp only [evE_mv, evE_fr, evE_bo, evE_lit, evE_glb, evE_shr, evE_bin, evE_neg, evE_not, evE_and, evE_or, evE_cmp, evE_ix, evE_pth, evE_sl, evE_tup, evE_lst, evE_call, evE_bi, evE_isi, evE_pop, evE_lrv, evE_lrg, evEs_nil, evEs_cons, evEo_no, evEo_so, evC_no, evC_so, evIt_list, evIt_rg1, evIt_rg2, evIt_rg3, evIt_rev, evIt_zip, evIt_enum, evIt_str, evIt_brw, evIt_tupi, evS_asg, evS_unp, evS_par, evS_swp, evS_set1, evS_aug, evS_mut0, evS_ex, evS_ifs, evS_scn, evS_ret, evS_rse, evS_try1, evS_try2, evS_brk, evS_cnt, evS_pas, evS_kil, evSs_nil, evSs_cons, sq_nx, sq_rt, sq_bk, sq_ct, sq_ex, evS_whl, evS_frs, evE_lc, bnd, sbnd, obnd, raw, res, resL, rawL, valsL, anyBor, opBin, opCmp, opBi, biAbs, biInt, biStr, biLen, biList, biSum, biMax, biMin, biAll, Itr.bk, putBack, itemsOf, hkGo, boolsOf, opNeg, opNot, ixD, slD, litD, atom, isD, D.share, shareL, D.isHole, D.whole, wholeL, D.noOw, noOwL, D.noSh, noShL, stIx, owAt, asB, setTg, putE, mutD, mtAppend, mtExtend, mtPop, mtClear, mtInsert, kill, List.foldl_cons, List.foldl_nil, List.getElem?_cons_zero, List.getElem?_cons_succ, List.getElem?_nil, List.set_cons_zero, List.set_cons_succ, List.length_cons, List.length_nil, Bool.and_true, Bool.true_and, Bool.and_false, Bool.false_and, Bool.not_true, Bool.not_false, cond_true, cond_false, if_true, if_false, ite_true, ite_false, reduceIte, reduceCtorEq, Bool.false_eq_true, startE, List.replicate, List.append_eq, List.nil_append, List.cons_append, List.append_nil, fin, TV.atI0, TV.atI1, Option.bind_some, Option.map_some, Bool.and_self, Bool.or_self, Nat.reduceSub, Nat.reduceAdd, Nat.reduceEqDiff, Bool.not_eq_true, Bool.and_eq_true, decide_true, decide_false, real_eq_int, real_eq_bl, real_eq_non, real_eq_enc, real_eq_enc2, eqD_int, eqD_bl, eqD_pair, Int.reduceEq, Int.reduceToNat, Int.reduceLE, Int.reduceLT, nab10, nab2, castn0, castn1, castn2, castn3, castn4, castn5, Nat.reduceLT, and_self, and_true, true_and, and_false, false_and, if_pos trivial, not_true_eq_false, not_false_eq_true, Bool.or_true, Bool.or_false, Bool.true_or, Bool.false_or, hL, h0]) rfl (by simp only [evE_mv, evE_fr, evE_bo, evE_lit, evE_glb, evE_shr, evE_bin, evE_neg, evE_not, evE_and, evE_or, evE_cmp, evE_ix, evE_pth, evE_sl, evE_tup, evE_lst, evE_call, evE_bi, evE_isi, evE_pop, evE_lrv, evE_lrg, evEs_nil, evEs_cons, evEo_no, evEo_so, evC_no, evC_so, evIt_list, evIt_rg1, evIt_rg2, evIt_rg3, evIt_rev, evIt_zip, evIt_enum, evIt_str, evIt_brw, evIt_tupi, evS_asg, evS_unp, evS_par, evS_swp, evS_set1, evS_aug, evS_mut0, evS_ex, evS_ifs, evS_scn, evS_ret, evS_rse, evS_try1, evS_try2, evS_brk, evS_cnt, evS_pas, evS_kil, evSs_nil, evSs_cons, sq_nx, sq_rt, sq_bk, sq_ct, sq_ex, evS_whl, evS_frs, evE_lc, bnd, sbnd, obnd, raw, res, resL, rawL, valsL, anyBor, opBin, opCmp, opBi, biAbs, biInt, biStr, biLen, biList, biSum, biMax, biMin, biAll, Itr.bk, putBack, itemsOf, hkGo, boolsOf, opNeg, opNot, ixD, slD, litD, atom, isD, D.share, shareL, D.isHole, D.whole, wholeL, D.noOw, noOwL, D.noSh, noShL, stIx, owAt, asB, setTg, putE, mutD, mtAppend, mtExtend, mtPop, mtClear, mtInsert, kill, List.foldl_cons, List.foldl_nil, List.getElem?_cons_zero, List.getElem?_cons_succ, List.getElem?_nil, List.set_cons_zero, List.set_cons_succ, List.length_cons, List.length_nil, Bool.and_true, Bool.true_and, Bool.and_false, Bool.false_and, Bool.not_true, Bool.not_false, cond_true, cond_false, if_true, if_false, ite_true, ite_false, reduceIte, reduceCtorEq, Bool.false_eq_true, startE, List.replicate, List.append_eq, List.nil_append, List.cons_append, List.append_nil, fin, TV.atI0, TV.atI1, Option.bind_some, Option.map_some, Bool.and_self, Bool.or_self, Nat.reduceSub, Nat.reduceAdd, Nat.reduceEqDiff, Bool.not_eq_true, Bool.and_eq_true, decide_true, decide_false, real_eq_int, real_eq_bl, real_eq_non, real_eq_enc, real_eq_enc2, eqD_int, eqD_bl, eqD_pair, Int.reduceEq, Int.reduceToNat, Int.reduceLE, Int.reduceLT, nab10, nab2, castn0, castn1, castn2, castn3, castn4, castn5, Nat.reduceLT, and_self, and_true, true_and, and_false, false_and, if_pos trivial, not_true_eq_false, not_false_eq_true, Bool.or_true, Bool.or_false, Bool.true_or, Bool.false_or, h0]) ⟨z, hz⟩
    exact ⟨z, r, hz, hr⟩
theorem run_law_divisor_0 (h : Has T f_law_divisor_0) (a b : Int) : run real exc glb T (n + 1) "_law_divisor" [.int a, .int b] = some (.ok (.int (Int.gcd a b))) := by
  rw [run_eq (f := "_law_divisor") (d := f_law_divisor_0) h rfl]
  obtain ⟨z, r, hz, hr⟩ := div_loop (C := ctx real exc glb T n) rfl b.natAbs a b rfl
  have hz : loopW (ctx real exc glb T n) _ _ _ = _ := whP_of hz
  have e : (if r < 0 then -r else r) = (Int.gcd a b : Int) := by split <;> omega
  simp only [c_law_divisor_0, f_law_divisor_0, evE_mv, evE_fr, evE_bo, evE_lit, evE_glb, evE_shr, evE_bin, evE_neg, evE_not, evE_and, evE_or, evE_cmp, evE_ix, evE_pth, evE_sl, evE_tup, evE_lst, evE_call, evE_bi, evE_isi, evE_pop, evE_lrv, evE_lrg, evEs_nil, evEs_cons, evEo_no, evEo_so, evC_no, evC_so, evIt_list, evIt_rg1, evIt_rg2, evIt_rg3, evIt_rev, evIt_zip, evIt_enum, evIt_str, evIt_brw, evIt_tupi, evS_asg, evS_unp, evS_par, evS_swp, evS_set1, evS_aug, evS_mut0, evS_ex, evS_ifs, evS_scn, evS_ret, evS_rse, evS_try1, evS_try2, evS_brk, evS_cnt, evS_pas, evS_kil, evSs_nil, evSs_cons, sq_nx, sq_rt, sq_bk, sq_ct, sq_ex, evS_whl, evS_frs, evE_lc, bnd, sbnd, obnd, raw, res, resL, rawL, valsL, anyBor, opBin, opCmp, opBi, biAbs, biInt, biStr, biLen, biList, biSum, biMax, biMin, biAll, Itr.bk, putBack, itemsOf, hkGo, boolsOf, opNeg, opNot, ixD, slD, litD, atom, isD, D.share, shareL, D.isHole, D.whole, wholeL, D.noOw, noOwL, D.noSh, noShL, stIx, owAt, asB, setTg, putE, mutD, mtAppend, mtExtend, mtPop, mtClear, mtInsert, kill, List.foldl_cons, List.foldl_nil, List.getElem?_cons_zero, List.getElem?_cons_succ, List.getElem?_nil, List.set_cons_zero, List.set_cons_succ, List.length_cons, List.length_nil, Bool.and_true, Bool.true_and, Bool.and_false, Bool.false_and, Bool.not_true, Bool.not_false, cond_true, cond_false, if_true, if_false, ite_true, ite_false, reduceIte, reduceCtorEq, Bool.false_eq_true, startE, List.replicate, List.append_eq, List.nil_append, List.cons_append, List.append_nil, fin, TV.atI0, TV.atI1, Option.bind_some, Option.map_some, Bool.and_self, Bool.or_self, Nat.reduceSub, Nat.reduceAdd, Nat.reduceEqDiff, Bool.not_eq_true, Bool.and_eq_true, decide_true, decide_false, real_eq_int, real_eq_bl, real_eq_non, real_eq_enc, real_eq_enc2, eqD_int, eqD_bl, eqD_pair, Int.reduceEq, Int.reduceToNat, Int.reduceLE, Int.reduceLT, nab10, nab2, castn0, castn1, castn2, castn3, castn4, castn5, Nat.reduceLT, and_self, and_true, true_and, and_false, false_and, if_pos trivial, not_true_eq_false, not_false_eq_true, Bool.or_true, Bool.or_false, Bool.true_or, Bool.false_or, hz, e]
/-- a fraction put into lowest terms by hand -/
theorem low_by_hand (t b : Int) (hb : 0 < b) : (Int.gcd t b : Int) ≠ 0 ∧ t.fdiv (Int.gcd t b) = (Rat.divInt t b).num ∧ b.fdiv (Int.gcd t b) = (Rat.divInt t b).den := by
  have := frac_core t b (by omega)
  rwa [if_neg (by omega)] at this
theorem gcd_loop23 {C : TV.Ctx} {d0 d1 : D} : ∀ (k : Nat) (a b : Int), 0 ≤ a → b = k →
    ∃ z, whN (evE C (.cmp .Gt (.bo 3) (.lit (.int 0)))) (evSs C (.cons (.par 2 3 (.fr 3) (.bin .Mod (.bo 2) (.bo 3))) .nil)) z [d0, d1, .int a, .int b] = some (.nx [d0, d1, .int (Int.gcd a b), .int 0]) := by
  intro k
  induction k using Nat.strongRecOn with
  | _ k ih =>
  intro a b ha hb
  by_cases h0 : k = 0
  · subst h0
    have hb : b = 0 := by omega
    subst hb
    have e : ((Int.gcd a 0 : Nat) : Int) = a := by simp [Int.natAbs_of_nonneg ha]
    rw [e]
    refine whP_end (e1 := [d0, d1, .int a, .int 0]) (t := .val (.bl false)) ?_ rfl
    simp only [evE_mv, evE_fr, evE_bo, evE_lit, evE_glb, evE_shr, evE_bin, evE_neg, evE_not, evE_and, evE_or, evE_cmp, evE_ix, evE_pth, evE_sl, evE_tup, evE_lst, evE_call, evE_bi, evE_isi, evE_pop, evE_lrv, evE_lrg, evEs_nil, evEs_cons, evEo_no, evEo_so, evC_no, evC_so, evIt_list, evIt_rg1, evIt_rg2, evIt_rg3, evIt_rev, evIt_zip, evIt_enum, evIt_str, evIt_brw, evIt_tupi, evS_asg, evS_unp, evS_par, evS_swp, evS_set1, evS_aug, evS_mut0, evS_ex, evS_ifs, evS_scn, evS_ret, evS_rse, evS_try1, evS_try2, evS_brk, evS_cnt, evS_pas, evS_kil, evSs_nil, evSs_cons, sq_nx, sq_rt, sq_bk, sq_ct, sq_ex, evS_whl, evS_frs, evE_lc, bnd, sbnd, obnd, raw, res, resL, rawL, valsL, anyBor, opBin, opCmp, opBi, biAbs, biInt, biStr, biLen, biList, biSum, biMax, biMin, biAll, Itr.bk, putBack, itemsOf, hkGo, boolsOf, opNeg, opNot, ixD, slD, litD, atom, isD, D.share, shareL, D.isHole, D.whole, wholeL, D.noOw, noOwL, D.noSh, noShL, stIx, owAt, asB, setTg, putE, mutD, mtAppend, mtExtend, mtPop, mtClear, mtInsert, kill, List.foldl_cons, List.foldl_nil, List.getElem?_cons_zero, List.getElem?_cons_succ, List.getElem?_nil, List.set_cons_zero, List.set_cons_succ, List.length_cons, List.length_nil, Bool.and_true, Bool.true_and, Bool.and_false, Bool.false_and, Bool.not_true, Bool.not_false, cond_true, cond_false, if_true, if_false, ite_true, ite_false, reduceIte, reduceCtorEq, Bool.false_eq_true, startE, List.replicate, List.append_eq, List.nil_append, List.cons_append, List.append_nil, fin, TV.atI0, TV.atI1, Option.bind_some, Option.map_some, Bool.and_self, Bool.or_self, Nat.reduceSub, Nat.reduceAdd, Nat.reduceEqDiff, Bool.not_eq_true, Bool.and_eq_true, decide_true, decide_false, real_eq_int, real_eq_bl, real_eq_non, real_eq_enc, real_eq_enc2, eqD_int, eqD_bl, eqD_pair, Int.reduceEq, Int.reduceToNat, Int.reduceLE, Int.reduceLT, nab10, nab2, castn0, castn1, castn2, castn3, castn4, castn5, Nat.reduceLT, and_self, and_true, true_and, and_false, false_and, if_pos trivial, not_true_eq_false, not_false_eq_true, Bool.or_true, Bool.or_false, Bool.true_or, Bool.false_or]
  · have hpos : 0 < b := by omega
    have hm := Int.fmod_nonneg_of_pos a hpos
    have hl := fmod_lt a b (by omega)
    obtain ⟨z, hz⟩ := ih (Int.fmod a b).natAbs (by omega) b (Int.fmod a b) (by omega) (by omega)
    rw [gcd_fmod] at hz
    refine whP_step (e1 := [d0, d1, .int a, .int b]) (t := .val (.bl true)) (e2 := [d0, d1, .int b, .int (Int.fmod a b)]) ?_ rfl ?_ ⟨z, hz⟩
    · simp only [evE_mv, evE_fr, evE_bo, evE_lit, evE_glb, evE_shr, evE_bin, evE_neg, evE_not, evE_and, evE_or, evE_cmp, evE_ix, evE_pth, evE_sl, evE_tup, evE_lst, evE_call, evE_bi, evE_isi, evE_pop, evE_lrv, evE_lrg, evEs_nil, evEs_cons, evEo_no, evEo_so, evC_no, evC_so, evIt_list, evIt_rg1, evIt_rg2, evIt_rg3, evIt_rev, evIt_zip, evIt_enum, evIt_str, evIt_brw, evIt_tupi, evS_asg, evS_unp, evS_par, evS_swp, evS_set1, evS_aug, evS_mut0, evS_ex, evS_ifs, evS_scn, evS_ret, evS_rse, evS_try1, evS_try2, evS_brk, evS_cnt, evS_pas, evS_kil, evSs_nil, evSs_cons, sq_nx, sq_rt, sq_bk, sq_ct, sq_ex, evS_whl, evS_frs, evE_lc, bnd, sbnd, obnd, raw, res, resL, rawL, valsL, anyBor, opBin, opCmp, opBi, biAbs, biInt, biStr, biLen, biList, biSum, biMax, biMin, biAll, Itr.bk, putBack, itemsOf, hkGo, boolsOf, opNeg, opNot, ixD, slD, litD, atom, isD, D.share, shareL, D.isHole, D.whole, wholeL, D.noOw, noOwL, D.noSh, noShL, stIx, owAt, asB, setTg, putE, mutD, mtAppend, mtExtend, mtPop, mtClear, mtInsert, kill, List.foldl_cons, List.foldl_nil, List.getElem?_cons_zero, List.getElem?_cons_succ, List.getElem?_nil, List.set_cons_zero, List.set_cons_succ, List.length_cons, List.length_nil, Bool.and_true, Bool.true_and, Bool.and_false, Bool.false_and, Bool.not_true, Bool.not_false, cond_true, cond_false, if_true, if_false, ite_true, ite_false, reduceIte, reduceCtorEq, Bool.false_eq_true, startE, List.replicate, List.append_eq, List.nil_append, List.cons_append, List.append_nil, fin, TV.atI0, TV.atI1, Option.bind_some, Option.map_some, Bool.and_self, Bool.or_self, Nat.reduceSub, Nat.reduceAdd, Nat.reduceEqDiff, Bool.not_eq_true, Bool.and_eq_true, decide_true, decide_false, real_eq_int, real_eq_bl, real_eq_non, real_eq_enc, real_eq_enc2, eqD_int, eqD_bl, eqD_pair, Int.reduceEq, Int.reduceToNat, Int.reduceLE, Int.reduceLT, nab10, nab2, castn0, castn1, castn2, castn3, castn4, castn5, Nat.reduceLT, and_self, and_true, true_and, and_false, false_and, if_pos trivial, not_true_eq_false, not_false_eq_true, Bool.or_true, Bool.or_false, Bool.true_or, Bool.false_or, hpos]
    · have hne : b ≠ 0 := by omega
      simp only [evE_mv, evE_fr, evE_bo, evE_lit, evE_glb, evE_shr, evE_bin, evE_neg, evE_not, evE_and, evE_or, evE_cmp, evE_ix, evE_pth, evE_sl, evE_tup, evE_lst, evE_call, evE_bi, evE_isi, evE_pop, evE_lrv, evE_lrg, evEs_nil, evEs_cons, evEo_no, evEo_so, evC_no, evC_so, evIt_list, evIt_rg1, evIt_rg2, evIt_rg3, evIt_rev, evIt_zip, evIt_enum, evIt_str, evIt_brw, evIt_tupi, evS_asg, evS_unp, evS_par, evS_swp, evS_set1, evS_aug, evS_mut0, evS_ex, evS_ifs, evS_scn, evS_ret, evS_rse, evS_try1, evS_try2, evS_brk, evS_cnt, evS_pas, evS_kil, evSs_nil, evSs_cons, sq_nx, sq_rt, sq_bk, sq_ct, sq_ex, evS_whl, evS_frs, evE_lc, bnd, sbnd, obnd, raw, res, resL, rawL, valsL, anyBor, opBin, opCmp, opBi, biAbs, biInt, biStr, biLen, biList, biSum, biMax, biMin, biAll, Itr.bk, putBack, itemsOf, hkGo, boolsOf, opNeg, opNot, ixD, slD, litD, atom, isD, D.share, shareL, D.isHole, D.whole, wholeL, D.noOw, noOwL, D.noSh, noShL, stIx, owAt, asB, setTg, putE, mutD, mtAppend, mtExtend, mtPop, mtClear, mtInsert, kill, List.foldl_cons, List.foldl_nil, List.getElem?_cons_zero, List.getElem?_cons_succ, List.getElem?_nil, List.set_cons_zero, List.set_cons_succ, List.length_cons, List.length_nil, Bool.and_true, Bool.true_and, Bool.and_false, Bool.false_and, Bool.not_true, Bool.not_false, cond_true, cond_false, if_true, if_false, ite_true, ite_false, reduceIte, reduceCtorEq, Bool.false_eq_true, startE, List.replicate, List.append_eq, List.nil_append, List.cons_append, List.append_nil, fin, TV.atI0, TV.atI1, Option.bind_some, Option.map_some, Bool.and_self, Bool.or_self, Nat.reduceSub, Nat.reduceAdd, Nat.reduceEqDiff, Bool.not_eq_true, Bool.and_eq_true, decide_true, decide_false, real_eq_int, real_eq_bl, real_eq_non, real_eq_enc, real_eq_enc2, eqD_int, eqD_bl, eqD_pair, Int.reduceEq, Int.reduceToNat, Int.reduceLE, Int.reduceLT, nab10, nab2, castn0, castn1, castn2, castn3, castn4, castn5, Nat.reduceLT, and_self, and_true, true_and, and_false, false_and, if_pos trivial, not_true_eq_false, not_false_eq_true, Bool.or_true, Bool.or_false, Bool.true_or, Bool.false_or, hne]
theorem gcd_abs (a b : Int) : Int.gcd (if a < 0 then -a else a) (if b < 0 then -b else b) = Int.gcd a b := by
  split <;> split <;> simp
theorem gcd_absl (a b : Int) : Int.gcd (if a < 0 then -a else a) b = Int.gcd a b := by
  split <;> simp
theorem run_law_low_2 (h : Has T f_law_low_2) (t b : Int) (hb : b ≠ 0) : run real exc glb T (n + 1) "_law_low" [.int t, .int b] = some (.ok (enc (Rat.divInt t b))) := by
  rw [run_eq (f := "_law_low") (d := f_law_low_2) h rfl]
  obtain ⟨z, hz⟩ := gcd_loop23 (C := ctx real exc glb T n) (d0 := .int t) (d1 := .int b) b.natAbs (if t < 0 then -t else t) (if b < 0 then -b else b) (by split <;> omega) (by split <;> omega)
  have hz : loopW (ctx real exc glb T n) _ _ _ = _ := whP_of hz
  rw [gcd_abs] at hz
  obtain ⟨k1, k2, k3⟩ := frac_core t b hb
  by_cases hn : b < 0
  · rw [if_pos hn] at k1 k2 k3
    rw [if_pos hn] at hz
    simp only [c_law_low_2, f_law_low_2, evE_mv, evE_fr, evE_bo, evE_lit, evE_glb, evE_shr, evE_bin, evE_neg, evE_not, evE_and, evE_or, evE_cmp, evE_ix, evE_pth, evE_sl, evE_tup, evE_lst, evE_call, evE_bi, evE_isi, evE_pop, evE_lrv, evE_lrg, evEs_nil, evEs_cons, evEo_no, evEo_so, evC_no, evC_so, evIt_list, evIt_rg1, evIt_rg2, evIt_rg3, evIt_rev, evIt_zip, evIt_enum, evIt_str, evIt_brw, evIt_tupi, evS_asg, evS_unp, evS_par, evS_swp, evS_set1, evS_aug, evS_mut0, evS_ex, evS_ifs, evS_scn, evS_ret, evS_rse, evS_try1, evS_try2, evS_brk, evS_cnt, evS_pas, evS_kil, evSs_nil, evSs_cons, sq_nx, sq_rt, sq_bk, sq_ct, sq_ex, evS_whl, evS_frs, evE_lc, bnd, sbnd, obnd, raw, res, resL, rawL, valsL, anyBor, opBin, opCmp, opBi, biAbs, biInt, biStr, biLen, biList, biSum, biMax, biMin, biAll, Itr.bk, putBack, itemsOf, hkGo, boolsOf, opNeg, opNot, ixD, slD, litD, atom, isD, D.share, shareL, D.isHole, D.whole, wholeL, D.noOw, noOwL, D.noSh, noShL, stIx, owAt, asB, setTg, putE, mutD, mtAppend, mtExtend, mtPop, mtClear, mtInsert, kill, List.foldl_cons, List.foldl_nil, List.getElem?_cons_zero, List.getElem?_cons_succ, List.getElem?_nil, List.set_cons_zero, List.set_cons_succ, List.length_cons, List.length_nil, Bool.and_true, Bool.true_and, Bool.and_false, Bool.false_and, Bool.not_true, Bool.not_false, cond_true, cond_false, if_true, if_false, ite_true, ite_false, reduceIte, reduceCtorEq, Bool.false_eq_true, startE, List.replicate, List.append_eq, List.nil_append, List.cons_append, List.append_nil, fin, TV.atI0, TV.atI1, Option.bind_some, Option.map_some, Bool.and_self, Bool.or_self, Nat.reduceSub, Nat.reduceAdd, Nat.reduceEqDiff, Bool.not_eq_true, Bool.and_eq_true, decide_true, decide_false, real_eq_int, real_eq_bl, real_eq_non, real_eq_enc, real_eq_enc2, eqD_int, eqD_bl, eqD_pair, Int.reduceEq, Int.reduceToNat, Int.reduceLE, Int.reduceLT, nab10, nab2, castn0, castn1, castn2, castn3, castn4, castn5, Nat.reduceLT, and_self, and_true, true_and, and_false, false_and, if_pos trivial, not_true_eq_false, not_false_eq_true, Bool.or_true, Bool.or_false, Bool.true_or, Bool.false_or, hz, hn, k1, k2, k3, enc]
  · rw [if_neg hn] at k1 k2 k3
    rw [if_neg hn] at hz
    simp only [c_law_low_2, f_law_low_2, evE_mv, evE_fr, evE_bo, evE_lit, evE_glb, evE_shr, evE_bin, evE_neg, evE_not, evE_and, evE_or, evE_cmp, evE_ix, evE_pth, evE_sl, evE_tup, evE_lst, evE_call, evE_bi, evE_isi, evE_pop, evE_lrv, evE_lrg, evEs_nil, evEs_cons, evEo_no, evEo_so, evC_no, evC_so, evIt_list, evIt_rg1, evIt_rg2, evIt_rg3, evIt_rev, evIt_zip, evIt_enum, evIt_str, evIt_brw, evIt_tupi, evS_asg, evS_unp, evS_par, evS_swp, evS_set1, evS_aug, evS_mut0, evS_ex, evS_ifs, evS_scn, evS_ret, evS_rse, evS_try1, evS_try2, evS_brk, evS_cnt, evS_pas, evS_kil, evSs_nil, evSs_cons, sq_nx, sq_rt, sq_bk, sq_ct, sq_ex, evS_whl, evS_frs, evE_lc, bnd, sbnd, obnd, raw, res, resL, rawL, valsL, anyBor, opBin, opCmp, opBi, biAbs, biInt, biStr, biLen, biList, biSum, biMax, biMin, biAll, Itr.bk, putBack, itemsOf, hkGo, boolsOf, opNeg, opNot, ixD, slD, litD, atom, isD, D.share, shareL, D.isHole, D.whole, wholeL, D.noOw, noOwL, D.noSh, noShL, stIx, owAt, asB, setTg, putE, mutD, mtAppend, mtExtend, mtPop, mtClear, mtInsert, kill, List.foldl_cons, List.foldl_nil, List.getElem?_cons_zero, List.getElem?_cons_succ, List.getElem?_nil, List.set_cons_zero, List.set_cons_succ, List.length_cons, List.length_nil, Bool.and_true, Bool.true_and, Bool.and_false, Bool.false_and, Bool.not_true, Bool.not_false, cond_true, cond_false, if_true, if_false, ite_true, ite_false, reduceIte, reduceCtorEq, Bool.false_eq_true, startE, List.replicate, List.append_eq, List.nil_append, List.cons_append, List.append_nil, fin, TV.atI0, TV.atI1, Option.bind_some, Option.map_some, Bool.and_self, Bool.or_self, Nat.reduceSub, Nat.reduceAdd, Nat.reduceEqDiff, Bool.not_eq_true, Bool.and_eq_true, decide_true, decide_false, real_eq_int, real_eq_bl, real_eq_non, real_eq_enc, real_eq_enc2, eqD_int, eqD_bl, eqD_pair, Int.reduceEq, Int.reduceToNat, Int.reduceLE, Int.reduceLT, nab10, nab2, castn0, castn1, castn2, castn3, castn4, castn5, Nat.reduceLT, and_self, and_true, true_and, and_false, false_and, if_pos trivial, not_true_eq_false, not_false_eq_true, Bool.or_true, Bool.or_false, Bool.true_or, Bool.false_or, hz, hn, k1, k2, k3, enc]
theorem run_law_low_0 (h : Has T f_law_low_0) (t b : Int) (hb : 0 < b) : run real exc glb T (n + 1) "_law_low" [.int t, .int b] = some (.ok (enc (Rat.divInt t b))) := by
  rw [run_eq (f := "_law_low") (d := f_law_low_0) h rfl]
  obtain ⟨z, hz⟩ := gcd_loop23 (C := ctx real exc glb T n) (d0 := .int t) (d1 := .int b) b.natAbs (if t < 0 then -t else t) b (by split <;> omega) (by omega)
  have hz : loopW (ctx real exc glb T n) _ _ _ = _ := whP_of hz
  rw [gcd_absl] at hz
  obtain ⟨k1, k2, k3⟩ := low_by_hand t b hb
  simp only [c_law_low_0, f_law_low_0, evE_mv, evE_fr, evE_bo, evE_lit, evE_glb, evE_shr, evE_bin, evE_neg, evE_not, evE_and, evE_or, evE_cmp, evE_ix, evE_pth, evE_sl, evE_tup, evE_lst, evE_call, evE_bi, evE_isi, evE_pop, evE_lrv, evE_lrg, evEs_nil, evEs_cons, evEo_no, evEo_so, evC_no, evC_so, evIt_list, evIt_rg1, evIt_rg2, evIt_rg3, evIt_rev, evIt_zip, evIt_enum, evIt_str, evIt_brw, evIt_tupi, evS_asg, evS_unp, evS_par, evS_swp, evS_set1, evS_aug, evS_mut0, evS_ex, evS_ifs, evS_scn, evS_ret, evS_rse, evS_try1, evS_try2, evS_brk, evS_cnt, evS_pas, evS_kil, evSs_nil, evSs_cons, sq_nx, sq_rt, sq_bk, sq_ct, sq_ex, evS_whl, evS_frs, evE_lc, bnd, sbnd, obnd, raw, res, resL, rawL, valsL, anyBor, opBin, opCmp, opBi, biAbs, biInt, biStr, biLen, biList, biSum, biMax, biMin, biAll, Itr.bk, putBack, itemsOf, hkGo, boolsOf, opNeg, opNot, ixD, slD, litD, atom, isD, D.share, shareL, D.isHole, D.whole, wholeL, D.noOw, noOwL, D.noSh, noShL, stIx, owAt, asB, setTg, putE, mutD, mtAppend, mtExtend, mtPop, mtClear, mtInsert, kill, List.foldl_cons, List.foldl_nil, List.getElem?_cons_zero, List.getElem?_cons_succ, List.getElem?_nil, List.set_cons_zero, List.set_cons_succ, List.length_cons, List.length_nil, Bool.and_true, Bool.true_and, Bool.and_false, Bool.false_and, Bool.not_true, Bool.not_false, cond_true, cond_false, if_true, if_false, ite_true, ite_false, reduceIte, reduceCtorEq, Bool.false_eq_true, startE, List.replicate, List.append_eq, List.nil_append, List.cons_append, List.append_nil, fin, TV.atI0, TV.atI1, Option.bind_some, Option.map_some, Bool.and_self, Bool.or_self, Nat.reduceSub, Nat.reduceAdd, Nat.reduceEqDiff, Bool.not_eq_true, Bool.and_eq_true, decide_true, decide_false, real_eq_int, real_eq_bl, real_eq_non, real_eq_enc, real_eq_enc2, eqD_int, eqD_bl, eqD_pair, Int.reduceEq, Int.reduceToNat, Int.reduceLE, Int.reduceLT, nab10, nab2, castn0, castn1, castn2, castn3, castn4, castn5, Nat.reduceLT, and_self, and_true, true_and, and_false, false_and, if_pos trivial, not_true_eq_false, not_false_eq_true, Bool.or_true, Bool.or_false, Bool.true_or, Bool.false_or, hz, k1, k2, k3, enc]
/-- sums and products by such a def -/
theorem run_law_sum_0 (h : Has T f_law_sum_0) (hlow : ∀ t b, 0 < b → run real exc glb T n "_law_low" [.int t, .int b] = some (.ok (enc (Rat.divInt t b)))) {a b : Nat} {p q : Rat} (hp : Rb a p) (hq : Rb b q) (hs : a + b ≤ 2 ^ 26) : run real exc glb T (n + 1) "_law_sum" [enc p, enc q] = some (.ok (enc (p + q))) := by
  rw [run_eq (f := "_law_sum") (d := f_law_sum_0) h rfl]
  have e := hlow (p.num * q.den + q.num * p.den) (p.den * q.den) (Int.mul_pos (den_pos p) (den_pos q))
  rw [add_divInt] at e
  have m1 : real.mul p.num q.den = true := mul_real hp.1 hq.2 hs
  have m2 : real.mul q.num p.den = true := mul_real hq.1 hp.2 (by omega)
  have m3 : real.mul p.den q.den = true := mul_real hp.2 hq.2 hs
  unfold enc at *
  simp only [c_law_sum_0, f_law_sum_0, evE_mv, evE_fr, evE_bo, evE_lit, evE_glb, evE_shr, evE_bin, evE_neg, evE_not, evE_and, evE_or, evE_cmp, evE_ix, evE_pth, evE_sl, evE_tup, evE_lst, evE_call, evE_bi, evE_isi, evE_pop, evE_lrv, evE_lrg, evEs_nil, evEs_cons, evEo_no, evEo_so, evC_no, evC_so, evIt_list, evIt_rg1, evIt_rg2, evIt_rg3, evIt_rev, evIt_zip, evIt_enum, evIt_str, evIt_brw, evIt_tupi, evS_asg, evS_unp, evS_par, evS_swp, evS_set1, evS_aug, evS_mut0, evS_ex, evS_ifs, evS_scn, evS_ret, evS_rse, evS_try1, evS_try2, evS_brk, evS_cnt, evS_pas, evS_kil, evSs_nil, evSs_cons, sq_nx, sq_rt, sq_bk, sq_ct, sq_ex, evS_whl, evS_frs, evE_lc, bnd, sbnd, obnd, raw, res, resL, rawL, valsL, anyBor, opBin, opCmp, opBi, biAbs, biInt, biStr, biLen, biList, biSum, biMax, biMin, biAll, Itr.bk, putBack, itemsOf, hkGo, boolsOf, opNeg, opNot, ixD, slD, litD, atom, isD, D.share, shareL, D.isHole, D.whole, wholeL, D.noOw, noOwL, D.noSh, noShL, stIx, owAt, asB, setTg, putE, mutD, mtAppend, mtExtend, mtPop, mtClear, mtInsert, kill, List.foldl_cons, List.foldl_nil, List.getElem?_cons_zero, List.getElem?_cons_succ, List.getElem?_nil, List.set_cons_zero, List.set_cons_succ, List.length_cons, List.length_nil, Bool.and_true, Bool.true_and, Bool.and_false, Bool.false_and, Bool.not_true, Bool.not_false, cond_true, cond_false, if_true, if_false, ite_true, ite_false, reduceIte, reduceCtorEq, Bool.false_eq_true, startE, List.replicate, List.append_eq, List.nil_append, List.cons_append, List.append_nil, fin, TV.atI0, TV.atI1, Option.bind_some, Option.map_some, Bool.and_self, Bool.or_self, Nat.reduceSub, Nat.reduceAdd, Nat.reduceEqDiff, Bool.not_eq_true, Bool.and_eq_true, decide_true, decide_false, real_eq_int, real_eq_bl, real_eq_non, real_eq_enc, real_eq_enc2, eqD_int, eqD_bl, eqD_pair, Int.reduceEq, Int.reduceToNat, Int.reduceLE, Int.reduceLT, nab10, nab2, castn0, castn1, castn2, castn3, castn4, castn5, Nat.reduceLT, and_self, and_true, true_and, and_false, false_and, if_pos trivial, not_true_eq_false, not_false_eq_true, Bool.or_true, Bool.or_false, Bool.true_or, Bool.false_or, m1, m2, m3, e]
theorem run_law_times_0 (h : Has T f_law_times_0) (hlow : ∀ t b, 0 < b → run real exc glb T n "_law_low" [.int t, .int b] = some (.ok (enc (Rat.divInt t b)))) {a b : Nat} {p q : Rat} (hp : Rb a p) (hq : Rb b q) (hs : a + b ≤ 2 ^ 26) : run real exc glb T (n + 1) "_law_times" [enc p, enc q] = some (.ok (enc (p * q))) := by
  rw [run_eq (f := "_law_times") (d := f_law_times_0) h rfl]
  have e := hlow (p.num * q.num) (p.den * q.den) (Int.mul_pos (den_pos p) (den_pos q))
  rw [mul_divInt] at e
  have m1 : real.mul p.num q.num = true := mul_real hp.1 hq.1 hs
  have m3 : real.mul p.den q.den = true := mul_real hp.2 hq.2 hs
  unfold enc at *
  simp only [c_law_times_0, f_law_times_0, evE_mv, evE_fr, evE_bo, evE_lit, evE_glb, evE_shr, evE_bin, evE_neg, evE_not, evE_and, evE_or, evE_cmp, evE_ix, evE_pth, evE_sl, evE_tup, evE_lst, evE_call, evE_bi, evE_isi, evE_pop, evE_lrv, evE_lrg, evEs_nil, evEs_cons, evEo_no, evEo_so, evC_no, evC_so, evIt_list, evIt_rg1, evIt_rg2, evIt_rg3, evIt_rev, evIt_zip, evIt_enum, evIt_str, evIt_brw, evIt_tupi, evS_asg, evS_unp, evS_par, evS_swp, evS_set1, evS_aug, evS_mut0, evS_ex, evS_ifs, evS_scn, evS_ret, evS_rse, evS_try1, evS_try2, evS_brk, evS_cnt, evS_pas, evS_kil, evSs_nil, evSs_cons, sq_nx, sq_rt, sq_bk, sq_ct, sq_ex, evS_whl, evS_frs, evE_lc, bnd, sbnd, obnd, raw, res, resL, rawL, valsL, anyBor, opBin, opCmp, opBi, biAbs, biInt, biStr, biLen, biList, biSum, biMax, biMin, biAll, Itr.bk, putBack, itemsOf, hkGo, boolsOf, opNeg, opNot, ixD, slD, litD, atom, isD, D.share, shareL, D.isHole, D.whole, wholeL, D.noOw, noOwL, D.noSh, noShL, stIx, owAt, asB, setTg, putE, mutD, mtAppend, mtExtend, mtPop, mtClear, mtInsert, kill, List.foldl_cons, List.foldl_nil, List.getElem?_cons_zero, List.getElem?_cons_succ, List.getElem?_nil, List.set_cons_zero, List.set_cons_succ, List.length_cons, List.length_nil, Bool.and_true, Bool.true_and, Bool.and_false, Bool.false_and, Bool.not_true, Bool.not_false, cond_true, cond_false, if_true, if_false, ite_true, ite_false, reduceIte, reduceCtorEq, Bool.false_eq_true, startE, List.replicate, List.append_eq, List.nil_append, List.cons_append, List.append_nil, fin, TV.atI0, TV.atI1, Option.bind_some, Option.map_some, Bool.and_self, Bool.or_self, Nat.reduceSub, Nat.reduceAdd, Nat.reduceEqDiff, Bool.not_eq_true, Bool.and_eq_true, decide_true, decide_false, real_eq_int, real_eq_bl, real_eq_non, real_eq_enc, real_eq_enc2, eqD_int, eqD_bl, eqD_pair, Int.reduceEq, Int.reduceToNat, Int.reduceLE, Int.reduceLT, nab10, nab2, castn0, castn1, castn2, castn3, castn4, castn5, Nat.reduceLT, and_self, and_true, true_and, and_false, false_and, if_pos trivial, not_true_eq_false, not_false_eq_true, Bool.or_true, Bool.or_false, Bool.true_or, Bool.false_or, m1, m3, e]
theorem run_law_cell_at_0 (h : Has T f_law_cell_at_0) (kd : LK) (ns : List Int) (k : Nat) : run real exc glb T (n + 1) "_law_cell_at" [.lst kd (ns.map D.int), .int (k : Int)] = some (.ok (.int (ns.getD k 0))) := by
  rw [run_eq (f := "_law_cell_at") (d := f_law_cell_at_0) h rfl]
  have hlen : (ns.map D.int).length = ns.length := List.length_map ..
  by_cases hk : k < ns.length
  · have a := atI_ints ns k hk
    have z : (k : Int) < (ns.length : Int) := by omega
    simp only [c_law_cell_at_0, f_law_cell_at_0, evE_mv, evE_fr, evE_bo, evE_lit, evE_glb, evE_shr, evE_bin, evE_neg, evE_not, evE_and, evE_or, evE_cmp, evE_ix, evE_pth, evE_sl, evE_tup, evE_lst, evE_call, evE_bi, evE_isi, evE_pop, evE_lrv, evE_lrg, evEs_nil, evEs_cons, evEo_no, evEo_so, evC_no, evC_so, evIt_list, evIt_rg1, evIt_rg2, evIt_rg3, evIt_rev, evIt_zip, evIt_enum, evIt_str, evIt_brw, evIt_tupi, evS_asg, evS_unp, evS_par, evS_swp, evS_set1, evS_aug, evS_mut0, evS_ex, evS_ifs, evS_scn, evS_ret, evS_rse, evS_try1, evS_try2, evS_brk, evS_cnt, evS_pas, evS_kil, evSs_nil, evSs_cons, sq_nx, sq_rt, sq_bk, sq_ct, sq_ex, evS_whl, evS_frs, evE_lc, bnd, sbnd, obnd, raw, res, resL, rawL, valsL, anyBor, opBin, opCmp, opBi, biAbs, biInt, biStr, biLen, biList, biSum, biMax, biMin, biAll, Itr.bk, putBack, itemsOf, hkGo, boolsOf, opNeg, opNot, ixD, slD, litD, atom, isD, D.share, shareL, D.isHole, D.whole, wholeL, D.noOw, noOwL, D.noSh, noShL, stIx, owAt, asB, setTg, putE, mutD, mtAppend, mtExtend, mtPop, mtClear, mtInsert, kill, List.foldl_cons, List.foldl_nil, List.getElem?_cons_zero, List.getElem?_cons_succ, List.getElem?_nil, List.set_cons_zero, List.set_cons_succ, List.length_cons, List.length_nil, Bool.and_true, Bool.true_and, Bool.and_false, Bool.false_and, Bool.not_true, Bool.not_false, cond_true, cond_false, if_true, if_false, ite_true, ite_false, reduceIte, reduceCtorEq, Bool.false_eq_true, startE, List.replicate, List.append_eq, List.nil_append, List.cons_append, List.append_nil, fin, TV.atI0, TV.atI1, Option.bind_some, Option.map_some, Bool.and_self, Bool.or_self, Nat.reduceSub, Nat.reduceAdd, Nat.reduceEqDiff, Bool.not_eq_true, Bool.and_eq_true, decide_true, decide_false, real_eq_int, real_eq_bl, real_eq_non, real_eq_enc, real_eq_enc2, eqD_int, eqD_bl, eqD_pair, Int.reduceEq, Int.reduceToNat, Int.reduceLE, Int.reduceLT, nab10, nab2, castn0, castn1, castn2, castn3, castn4, castn5, Nat.reduceLT, and_self, and_true, true_and, and_false, false_and, if_pos trivial, not_true_eq_false, not_false_eq_true, Bool.or_true, Bool.or_false, Bool.true_or, Bool.false_or, hlen, z, a]
  · have z : ¬ (k : Int) < (ns.length : Int) := by omega
    have e : ns.getD k 0 = 0 := by rw [List.getD_eq_getElem?_getD, List.getElem?_eq_none (by omega)]; rfl
    simp only [c_law_cell_at_0, f_law_cell_at_0, evE_mv, evE_fr, evE_bo, evE_lit, evE_glb, evE_shr, evE_bin, evE_neg, evE_not, evE_and, evE_or, evE_cmp, evE_ix, evE_pth, evE_sl, evE_tup, evE_lst, evE_call, evE_bi, evE_isi, evE_pop, evE_lrv, evE_lrg, evEs_nil, evEs_cons, evEo_no, evEo_so, evC_no, evC_so, evIt_list, evIt_rg1, evIt_rg2, evIt_rg3, evIt_rev, evIt_zip, evIt_enum, evIt_str, evIt_brw, evIt_tupi, evS_asg, evS_unp, evS_par, evS_swp, evS_set1, evS_aug, evS_mut0, evS_ex, evS_ifs, evS_scn, evS_ret, evS_rse, evS_try1, evS_try2, evS_brk, evS_cnt, evS_pas, evS_kil, evSs_nil, evSs_cons, sq_nx, sq_rt, sq_bk, sq_ct, sq_ex, evS_whl, evS_frs, evE_lc, bnd, sbnd, obnd, raw, res, resL, rawL, valsL, anyBor, opBin, opCmp, opBi, biAbs, biInt, biStr, biLen, biList, biSum, biMax, biMin, biAll, Itr.bk, putBack, itemsOf, hkGo, boolsOf, opNeg, opNot, ixD, slD, litD, atom, isD, D.share, shareL, D.isHole, D.whole, wholeL, D.noOw, noOwL, D.noSh, noShL, stIx, owAt, asB, setTg, putE, mutD, mtAppend, mtExtend, mtPop, mtClear, mtInsert, kill, List.foldl_cons, List.foldl_nil, List.getElem?_cons_zero, List.getElem?_cons_succ, List.getElem?_nil, List.set_cons_zero, List.set_cons_succ, List.length_cons, List.length_nil, Bool.and_true, Bool.true_and, Bool.and_false, Bool.false_and, Bool.not_true, Bool.not_false, cond_true, cond_false, if_true, if_false, ite_true, ite_false, reduceIte, reduceCtorEq, Bool.false_eq_true, startE, List.replicate, List.append_eq, List.nil_append, List.cons_append, List.append_nil, fin, TV.atI0, TV.atI1, Option.bind_some, Option.map_some, Bool.and_self, Bool.or_self, Nat.reduceSub, Nat.reduceAdd, Nat.reduceEqDiff, Bool.not_eq_true, Bool.and_eq_true, decide_true, decide_false, real_eq_int, real_eq_bl, real_eq_non, real_eq_enc, real_eq_enc2, eqD_int, eqD_bl, eqD_pair, Int.reduceEq, Int.reduceToNat, Int.reduceLE, Int.reduceLT, nab10, nab2, castn0, castn1, castn2, castn3, castn4, castn5, Nat.reduceLT, and_self, and_true, true_and, and_false, false_and, if_pos trivial, not_true_eq_false, not_false_eq_true, Bool.or_true, Bool.or_false, Bool.true_or, Bool.false_or, hlen, z, e]
/-- a drawn fraction -/
def drawn0 (c : Int) : Rat :=
  if c.fmod 4 < 2 then Rat.divInt ((c.fdiv 4).fmod 13 - 6) (1 + ((c.fdiv 4).fdiv 13).fmod 4)
  else if c.fmod 4 = 2 then Rat.divInt ((c.fdiv 4).fmod (2 * 10 ^ 12 + 1) - 10 ^ 12) (1 + ((c.fdiv 4).fdiv 7).fmod 12)
  else Rat.divInt ((c.fdiv 4 * 48271).fmod (2 * 10 ^ 12 + 1) - 10 ^ 12) (1 + (c.fdiv 4).fmod (10 ^ 6))
theorem drawn0_bd (c : Int) : Rb 50 (drawn0 c) := by
  unfold drawn0
  have q1 := Int.fmod_nonneg_of_pos ((c.fdiv 4).fdiv 13) (b := 4) (by decide)
  have q2 := Int.fmod_nonneg_of_pos ((c.fdiv 4).fdiv 7) (b := 12) (by decide)
  have q3 := Int.fmod_nonneg_of_pos (c.fdiv 4) (b := 10 ^ 6) (by decide)
  split
  · exact Rb.divInt (((fmod_bd (n := 41) (by decide) (by decide)).sub (m := 41) (by decide)).mono (by decide)) ((Bd.add (n := 1) (m := 41) (by decide) (fmod_bd (by decide) (by decide))).mono (by decide)) (by omega)
  · split
    · exact Rb.divInt (((fmod_bd (n := 41) (by decide) (by decide)).sub (m := 41) (by decide)).mono (by decide)) ((Bd.add (n := 1) (m := 41) (by decide) (fmod_bd (by decide) (by decide))).mono (by decide)) (by omega)
    · exact Rb.divInt (((fmod_bd (n := 41) (by decide) (by decide)).sub (m := 41) (by decide)).mono (by decide)) ((Bd.add (n := 1) (m := 41) (by decide) (fmod_bd (by decide) (by decide))).mono (by decide)) (by omega)
theorem fdiv_bd {n : Nat} {a b : Int} (h : Bd n a) (hb : 0 < b) : Bd (n + 1) (a.fdiv b) := by
  unfold Bd at *
  rw [Int.fdiv_eq_ediv_of_nonneg _ (by omega)]
  have h1 : (a / b).natAbs ≤ a.natAbs + 1 := by
    have := Int.natAbs_ediv_le_natAbs a b
    omega
  rw [Nat.pow_succ]
  have : 0 < 2 ^ n := Nat.pow_pos (by decide)
  omega
theorem run_law_drawn_0 (h : Has T f_law_drawn_0) (hlow : ∀ t b, 0 < b → run real exc glb T n "_law_low" [.int t, .int b] = some (.ok (enc (Rat.divInt t b)))) (c : Int) (hc : Bd (2 ^ 21) c) : run real exc glb T (n + 1) "_law_drawn" [.int c] = some (.ok (enc (drawn0 c))) := by
  rw [run_eq (f := "_law_drawn") (d := f_law_drawn_0) h rfl]
  have q1 := Int.fmod_nonneg_of_pos ((c.fdiv 4).fdiv 13) (b := 4) (by decide)
  have q2 := Int.fmod_nonneg_of_pos ((c.fdiv 4).fdiv 7) (b := 12) (by decide)
  have q3 := Int.fmod_nonneg_of_pos (c.fdiv 4) (b := 10 ^ 6) (by decide)
  have e1 := hlow ((c.fdiv 4).fmod 13 - 6) (1 + ((c.fdiv 4).fdiv 13).fmod 4) (by omega)
  have e2 := hlow ((c.fdiv 4).fmod (2 * 10 ^ 12 + 1) - 10 ^ 12) (1 + ((c.fdiv 4).fdiv 7).fmod 12) (by omega)
  have e3 := hlow ((c.fdiv 4 * 48271).fmod (2 * 10 ^ 12 + 1) - 10 ^ 12) (1 + (c.fdiv 4).fmod (10 ^ 6)) (by omega)
  have m1 : real.mul 2 (10 ^ 12) = true := by decide +kernel
  have m2 : (2 * 10 ^ 12 + 1 : Int) ≠ 0 := by decide +kernel
  have m3 : real.mul (c.fdiv 4) 48271 = true := mul_real (m := 20) (fdiv_bd hc (by decide)) (by decide) (by decide)
  have m4 : (10 ^ 6 : Int) ≠ 0 := by decide
  unfold drawn0
  by_cases c1 : c.fmod 4 < 2
  · rw [if_pos c1]
    simp only [c_law_drawn_0, f_law_drawn_0, evE_mv, evE_fr, evE_bo, evE_lit, evE_glb, evE_shr, evE_bin, evE_neg, evE_not, evE_and, evE_or, evE_cmp, evE_ix, evE_pth, evE_sl, evE_tup, evE_lst, evE_call, evE_bi, evE_isi, evE_pop, evE_lrv, evE_lrg, evEs_nil, evEs_cons, evEo_no, evEo_so, evC_no, evC_so, evIt_list, evIt_rg1, evIt_rg2, evIt_rg3, evIt_rev, evIt_zip, evIt_enum, evIt_str, evIt_brw, evIt_tupi, evS_asg, evS_unp, evS_par, evS_swp, evS_set1, evS_aug, evS_mut0, evS_ex, evS_ifs, evS_scn, evS_ret, evS_rse, evS_try1, evS_try2, evS_brk, evS_cnt, evS_pas, evS_kil, evSs_nil, evSs_cons, sq_nx, sq_rt, sq_bk, sq_ct, sq_ex, evS_whl, evS_frs, evE_lc, bnd, sbnd, obnd, raw, res, resL, rawL, valsL, anyBor, opBin, opCmp, opBi, biAbs, biInt, biStr, biLen, biList, biSum, biMax, biMin, biAll, Itr.bk, putBack, itemsOf, hkGo, boolsOf, opNeg, opNot, ixD, slD, litD, atom, isD, D.share, shareL, D.isHole, D.whole, wholeL, D.noOw, noOwL, D.noSh, noShL, stIx, owAt, asB, setTg, putE, mutD, mtAppend, mtExtend, mtPop, mtClear, mtInsert, kill, List.foldl_cons, List.foldl_nil, List.getElem?_cons_zero, List.getElem?_cons_succ, List.getElem?_nil, List.set_cons_zero, List.set_cons_succ, List.length_cons, List.length_nil, Bool.and_true, Bool.true_and, Bool.and_false, Bool.false_and, Bool.not_true, Bool.not_false, cond_true, cond_false, if_true, if_false, ite_true, ite_false, reduceIte, reduceCtorEq, Bool.false_eq_true, startE, List.replicate, List.append_eq, List.nil_append, List.cons_append, List.append_nil, fin, TV.atI0, TV.atI1, Option.bind_some, Option.map_some, Bool.and_self, Bool.or_self, Nat.reduceSub, Nat.reduceAdd, Nat.reduceEqDiff, Bool.not_eq_true, Bool.and_eq_true, decide_true, decide_false, real_eq_int, real_eq_bl, real_eq_non, real_eq_enc, real_eq_enc2, eqD_int, eqD_bl, eqD_pair, Int.reduceEq, Int.reduceToNat, Int.reduceLE, Int.reduceLT, nab10, nab2, castn0, castn1, castn2, castn3, castn4, castn5, Nat.reduceLT, and_self, and_true, true_and, and_false, false_and, if_pos trivial, not_true_eq_false, not_false_eq_true, Bool.or_true, Bool.or_false, Bool.true_or, Bool.false_or, c1, e1]
  · rw [if_neg c1]
    by_cases c2 : c.fmod 4 = 2
    · rw [if_pos c2]
      simp only [c_law_drawn_0, f_law_drawn_0, evE_mv, evE_fr, evE_bo, evE_lit, evE_glb, evE_shr, evE_bin, evE_neg, evE_not, evE_and, evE_or, evE_cmp, evE_ix, evE_pth, evE_sl, evE_tup, evE_lst, evE_call, evE_bi, evE_isi, evE_pop, evE_lrv, evE_lrg, evEs_nil, evEs_cons, evEo_no, evEo_so, evC_no, evC_so, evIt_list, evIt_rg1, evIt_rg2, evIt_rg3, evIt_rev, evIt_zip, evIt_enum, evIt_str, evIt_brw, evIt_tupi, evS_asg, evS_unp, evS_par, evS_swp, evS_set1, evS_aug, evS_mut0, evS_ex, evS_ifs, evS_scn, evS_ret, evS_rse, evS_try1, evS_try2, evS_brk, evS_cnt, evS_pas, evS_kil, evSs_nil, evSs_cons, sq_nx, sq_rt, sq_bk, sq_ct, sq_ex, evS_whl, evS_frs, evE_lc, bnd, sbnd, obnd, raw, res, resL, rawL, valsL, anyBor, opBin, opCmp, opBi, biAbs, biInt, biStr, biLen, biList, biSum, biMax, biMin, biAll, Itr.bk, putBack, itemsOf, hkGo, boolsOf, opNeg, opNot, ixD, slD, litD, atom, isD, D.share, shareL, D.isHole, D.whole, wholeL, D.noOw, noOwL, D.noSh, noShL, stIx, owAt, asB, setTg, putE, mutD, mtAppend, mtExtend, mtPop, mtClear, mtInsert, kill, List.foldl_cons, List.foldl_nil, List.getElem?_cons_zero, List.getElem?_cons_succ, List.getElem?_nil, List.set_cons_zero, List.set_cons_succ, List.length_cons, List.length_nil, Bool.and_true, Bool.true_and, Bool.and_false, Bool.false_and, Bool.not_true, Bool.not_false, cond_true, cond_false, if_true, if_false, ite_true, ite_false, reduceIte, reduceCtorEq, Bool.false_eq_true, startE, List.replicate, List.append_eq, List.nil_append, List.cons_append, List.append_nil, fin, TV.atI0, TV.atI1, Option.bind_some, Option.map_some, Bool.and_self, Bool.or_self, Nat.reduceSub, Nat.reduceAdd, Nat.reduceEqDiff, Bool.not_eq_true, Bool.and_eq_true, decide_true, decide_false, real_eq_int, real_eq_bl, real_eq_non, real_eq_enc, real_eq_enc2, eqD_int, eqD_bl, eqD_pair, Int.reduceEq, Int.reduceToNat, Int.reduceLE, Int.reduceLT, nab10, nab2, castn0, castn1, castn2, castn3, castn4, castn5, Nat.reduceLT, and_self, and_true, true_and, and_false, false_and, if_pos trivial, not_true_eq_false, not_false_eq_true, Bool.or_true, Bool.or_false, Bool.true_or, Bool.false_or, c1, c2, e2, m1, m2]
    · rw [if_neg c2]
      simp only [c_law_drawn_0, f_law_drawn_0, evE_mv, evE_fr, evE_bo, evE_lit, evE_glb, evE_shr, evE_bin, evE_neg, evE_not, evE_and, evE_or, evE_cmp, evE_ix, evE_pth, evE_sl, evE_tup, evE_lst, evE_call, evE_bi, evE_isi, evE_pop, evE_lrv, evE_lrg, evEs_nil, evEs_cons, evEo_no, evEo_so, evC_no, evC_so, evIt_list, evIt_rg1, evIt_rg2, evIt_rg3, evIt_rev, evIt_zip, evIt_enum, evIt_str, evIt_brw, evIt_tupi, evS_asg, evS_unp, evS_par, evS_swp, evS_set1, evS_aug, evS_mut0, evS_ex, evS_ifs, evS_scn, evS_ret, evS_rse, evS_try1, evS_try2, evS_brk, evS_cnt, evS_pas, evS_kil, evSs_nil, evSs_cons, sq_nx, sq_rt, sq_bk, sq_ct, sq_ex, evS_whl, evS_frs, evE_lc, bnd, sbnd, obnd, raw, res, resL, rawL, valsL, anyBor, opBin, opCmp, opBi, biAbs, biInt, biStr, biLen, biList, biSum, biMax, biMin, biAll, Itr.bk, putBack, itemsOf, hkGo, boolsOf, opNeg, opNot, ixD, slD, litD, atom, isD, D.share, shareL, D.isHole, D.whole, wholeL, D.noOw, noOwL, D.noSh, noShL, stIx, owAt, asB, setTg, putE, mutD, mtAppend, mtExtend, mtPop, mtClear, mtInsert, kill, List.foldl_cons, List.foldl_nil, List.getElem?_cons_zero, List.getElem?_cons_succ, List.getElem?_nil, List.set_cons_zero, List.set_cons_succ, List.length_cons, List.length_nil, Bool.and_true, Bool.true_and, Bool.and_false, Bool.false_and, Bool.not_true, Bool.not_false, cond_true, cond_false, if_true, if_false, ite_true, ite_false, reduceIte, reduceCtorEq, Bool.false_eq_true, startE, List.replicate, List.append_eq, List.nil_append, List.cons_append, List.append_nil, fin, TV.atI0, TV.atI1, Option.bind_some, Option.map_some, Bool.and_self, Bool.or_self, Nat.reduceSub, Nat.reduceAdd, Nat.reduceEqDiff, Bool.not_eq_true, Bool.and_eq_true, decide_true, decide_false, real_eq_int, real_eq_bl, real_eq_non, real_eq_enc, real_eq_enc2, eqD_int, eqD_bl, eqD_pair, Int.reduceEq, Int.reduceToNat, Int.reduceLE, Int.reduceLT, nab10, nab2, castn0, castn1, castn2, castn3, castn4, castn5, Nat.reduceLT, and_self, and_true, true_and, and_false, false_and, if_pos trivial, not_true_eq_false, not_false_eq_true, Bool.or_true, Bool.or_false, Bool.true_or, Bool.false_or, c1, c2, e3, m1, m2, m3, m4]
structure TvM where
  p : Rat
  h : Rat
  w : Int
def encMk (m : TvM) : D := .tup [enc m.p, enc m.h, .int m.w]
theorem noOwL_encMk : ∀ l : List TvM, noOwL (l.map encMk) = true
  | [] => rfl
  | _ :: l => by rw [List.map_cons, noOwL, noOwL_encMk l]; rfl
theorem noShL_encMk : ∀ l : List TvM, noShL (l.map encMk) = true
  | [] => rfl
  | _ :: l => by rw [List.map_cons, noShL, noShL_encMk l]; rfl
theorem wholeL_encMk : ∀ l : List TvM, wholeL (l.map encMk) = true
  | [] => rfl
  | _ :: l => by rw [List.map_cons, wholeL, wholeL_encMk l]; rfl
theorem shareL_encMk (l : List TvM) : shareL (l.map encMk) = l.map encMk := shareL_id (noOwL_encMk l)
theorem flat_encMk (m : TvM) : flatP (encMk m) := ⟨rfl, by simp [encMk, enc, D.py, pyL, PyData.depth, PyData.depthAll]⟩
theorem real_eq_encMk (k : LK) (ms : List TvM) : real.eq (.lst k (ms.map encMk)) = true := real_eq_lst fun d hd => by
  obtain ⟨q, _, rfl⟩ := List.mem_map.mp hd
  exact flat_encMk q
mutual
theorem eqv_refl : ∀ d : D, PyData.eqv d.py d.py = true
  | .hole => by rw [D.py, PyData.eqv]
  | .non => by rw [D.py, PyData.eqv]
  | .bl b => by rw [D.py, PyData.eqv]; simp
  | .int i => by rw [D.py, PyData.eqv]; simp
  | .str x => by rw [D.py, PyData.eqv]; simp
  | .tup ds => by rw [D.py, PyData.eqv]; exact eqvAll_refl ds
  | .lst k ds => by rw [D.py, PyData.eqv]; exact eqvAll_refl ds
  | .dct => by rw [D.py, PyData.eqv]
theorem eqvAll_refl : ∀ ds : List D, PyData.eqvAll (pyL ds) (pyL ds) = true
  | [] => by rw [pyL, PyData.eqvAll]
  | d :: ds => by rw [pyL, PyData.eqvAll, eqv_refl d, eqvAll_refl ds]; rfl
end
theorem eqD_same (k k' : LK) (ds : List D) : eqD (.lst k ds) (.lst k' ds) = true := by
  unfold eqD
  rw [D.py, D.py, PyData.eqv]
  exact eqvAll_refl ds
theorem eqD_refl (d : D) : eqD d d = true := eqv_refl d
def hornerQ (qs : List Rat) (x : Rat) : Rat := qs.reverse.foldl (fun a q => a * x + q) 0
theorem horner_cons (q : Rat) (qs : List Rat) (x : Rat) : hornerQ (q :: qs) x = hornerQ qs x * x + q := by
  unfold hornerQ
  rw [List.reverse_cons, List.foldl_append]; rfl
theorem height_fold (x : Rat) : ∀ (qs : List Rat) (f p : Rat), (qs.foldl (fun (a : Rat × Rat) q => (a.1 + q * a.2, a.2 * x)) (f, p)).1 = f + p * hornerQ qs x
  | [], f, p => by
    show f = f + p * 0
    grind
  | q :: qs, f, p => by
    rw [List.foldl_cons, height_fold x qs, horner_cons]
    grind
theorem run_height_at (hc : Has T f_common_divisor) (hf : Has T f_fraction) (hp : Has T f_plus) (hpr : Has T f_product) (h : Has T f_height_at) {B X : Nat} {qs : List Rat} {x : Rat} (hx : Rb X x) (hq : ∀ q ∈ qs, Rb B q) (hs : (qs.length + 2) * (X + B + 1) ≤ 2 ^ 24) :
    run real exc glb T (n + 4) "height_at" [.lst .sh (qs.map enc), enc x] = some (.ok (enc (hornerQ qs x))) ∧ Rb (1 + qs.length * (X + B + 1)) (hornerQ qs x) := by
  obtain ⟨h1, h2⟩ := loop_all (C := ctx real exc glb T (n + 3)) (tg := .one 3) (b := (nthS 1 c_height_at).bodyOf) enc (fun a => [.lst .sh (qs.map enc), enc x, enc a, .hole]) (fun a q => a * x + q) qs.reverse (fun k a => Rb (1 + k * (X + B + 1)) a) 0 ⟨Nat.pow_pos (by decide), Nat.one_lt_two_pow (by omega)⟩ (fun k a q hk ha => by
    have hq1 := hq q (List.mem_reverse.mp (List.mem_of_getElem? hk))
    have hk := get_lt hk
    rw [List.length_reverse] at hk
    have hm : k * (X + B + 1) ≤ qs.length * (X + B + 1) := Nat.mul_le_mul_right _ (by omega)
    rw [Nat.add_mul] at hs
    have e1 := run_product (exc := exc) (glb := glb) (n := n) hc hf hpr ha hx (by omega)
    have r1 := ha.mul hx
    have e2 := run_plus (exc := exc) (glb := glb) (n := n) hc hf hp r1 hq1 (by omega)
    refine ⟨?_, (r1.add hq1).mono (by rw [Nat.succ_mul]; omega)⟩
    unfold enc at e1 e2
    simp only [bodF, c_height_at, nthS, S.bodyOf, evE_mv, evE_fr, evE_bo, evE_lit, evE_glb, evE_shr, evE_bin, evE_neg, evE_not, evE_and, evE_or, evE_cmp, evE_ix, evE_pth, evE_sl, evE_tup, evE_lst, evE_call, evE_bi, evE_isi, evE_pop, evE_lrv, evE_lrg, evEs_nil, evEs_cons, evEo_no, evEo_so, evC_no, evC_so, evIt_list, evIt_rg1, evIt_rg2, evIt_rg3, evIt_rev, evIt_zip, evIt_enum, evIt_str, evIt_brw, evIt_tupi, evS_asg, evS_unp, evS_par, evS_swp, evS_set1, evS_aug, evS_mut0, evS_ex, evS_ifs, evS_scn, evS_ret, evS_rse, evS_try1, evS_try2, evS_brk, evS_cnt, evS_pas, evS_kil, evSs_nil, evSs_cons, sq_nx, sq_rt, sq_bk, sq_ct, sq_ex, evS_whl, evS_frs, evE_lc, bnd, sbnd, obnd, raw, res, resL, rawL, valsL, anyBor, opBin, opCmp, opBi, biAbs, biInt, biStr, biLen, biList, biSum, biMax, biMin, biAll, Itr.bk, putBack, itemsOf, hkGo, boolsOf, opNeg, opNot, ixD, slD, litD, atom, isD, D.share, shareL, D.isHole, D.whole, wholeL, D.noOw, noOwL, D.noSh, noShL, stIx, owAt, asB, setTg, putE, mutD, mtAppend, mtExtend, mtPop, mtClear, mtInsert, kill, List.foldl_cons, List.foldl_nil, List.getElem?_cons_zero, List.getElem?_cons_succ, List.getElem?_nil, List.set_cons_zero, List.set_cons_succ, List.length_cons, List.length_nil, Bool.and_true, Bool.true_and, Bool.and_false, Bool.false_and, Bool.not_true, Bool.not_false, cond_true, cond_false, if_true, if_false, ite_true, ite_false, reduceIte, reduceCtorEq, Bool.false_eq_true, startE, List.replicate, List.append_eq, List.nil_append, List.cons_append, List.append_nil, fin, TV.atI0, TV.atI1, Option.bind_some, Option.map_some, Bool.and_self, Bool.or_self, Nat.reduceSub, Nat.reduceAdd, Nat.reduceEqDiff, Bool.not_eq_true, Bool.and_eq_true, decide_true, decide_false, real_eq_int, real_eq_bl, real_eq_non, real_eq_enc, real_eq_enc2, eqD_int, eqD_bl, eqD_pair, Int.reduceEq, Int.reduceToNat, Int.reduceLE, Int.reduceLT, nab10, nab2, castn0, castn1, castn2, castn3, castn4, castn5, Nat.reduceLT, and_self, and_true, true_and, and_false, false_and, if_pos trivial, not_true_eq_false, not_false_eq_true, Bool.or_true, Bool.or_false, Bool.true_or, Bool.false_or, enc, e1, e2])
  rw [List.length_reverse] at h2
  refine ⟨?_, h2⟩
  rw [run_eq (f := "height_at") (d := f_height_at) h rfl]
  show fin (evSs (ctx real exc glb T (n + 3)) c_height_at [.lst .sh (qs.map enc), enc x, .hole, .hole]) = _
  have e0 : enc 0 = .tup [.int 0, .int 1] := rfl
  have ho := noOwL_encs qs
  rw [List.map_reverse, e0] at h1
  simp only [c_height_at, nthS, S.bodyOf] at h1
  unfold hornerQ
  generalize qs.map enc = l at *
  unfold enc at h1
  simp only [c_height_at, evE_mv, evE_fr, evE_bo, evE_lit, evE_glb, evE_shr, evE_bin, evE_neg, evE_not, evE_and, evE_or, evE_cmp, evE_ix, evE_pth, evE_sl, evE_tup, evE_lst, evE_call, evE_bi, evE_isi, evE_pop, evE_lrv, evE_lrg, evEs_nil, evEs_cons, evEo_no, evEo_so, evC_no, evC_so, evIt_list, evIt_rg1, evIt_rg2, evIt_rg3, evIt_rev, evIt_zip, evIt_enum, evIt_str, evIt_brw, evIt_tupi, evS_asg, evS_unp, evS_par, evS_swp, evS_set1, evS_aug, evS_mut0, evS_ex, evS_ifs, evS_scn, evS_ret, evS_rse, evS_try1, evS_try2, evS_brk, evS_cnt, evS_pas, evS_kil, evSs_nil, evSs_cons, sq_nx, sq_rt, sq_bk, sq_ct, sq_ex, evS_whl, evS_frs, evE_lc, bnd, sbnd, obnd, raw, res, resL, rawL, valsL, anyBor, opBin, opCmp, opBi, biAbs, biInt, biStr, biLen, biList, biSum, biMax, biMin, biAll, Itr.bk, putBack, itemsOf, hkGo, boolsOf, opNeg, opNot, ixD, slD, litD, atom, isD, D.share, shareL, D.isHole, D.whole, wholeL, D.noOw, noOwL, D.noSh, noShL, stIx, owAt, asB, setTg, putE, mutD, mtAppend, mtExtend, mtPop, mtClear, mtInsert, kill, List.foldl_cons, List.foldl_nil, List.getElem?_cons_zero, List.getElem?_cons_succ, List.getElem?_nil, List.set_cons_zero, List.set_cons_succ, List.length_cons, List.length_nil, Bool.and_true, Bool.true_and, Bool.and_false, Bool.false_and, Bool.not_true, Bool.not_false, cond_true, cond_false, if_true, if_false, ite_true, ite_false, reduceIte, reduceCtorEq, Bool.false_eq_true, startE, List.replicate, List.append_eq, List.nil_append, List.cons_append, List.append_nil, fin, TV.atI0, TV.atI1, Option.bind_some, Option.map_some, Bool.and_self, Bool.or_self, Nat.reduceSub, Nat.reduceAdd, Nat.reduceEqDiff, Bool.not_eq_true, Bool.and_eq_true, decide_true, decide_false, real_eq_int, real_eq_bl, real_eq_non, real_eq_enc, real_eq_enc2, eqD_int, eqD_bl, eqD_pair, Int.reduceEq, Int.reduceToNat, Int.reduceLE, Int.reduceLT, nab10, nab2, castn0, castn1, castn2, castn3, castn4, castn5, Nat.reduceLT, and_self, and_true, true_and, and_false, false_and, if_pos trivial, not_true_eq_false, not_false_eq_true, Bool.or_true, Bool.or_false, Bool.true_or, Bool.false_or, ho, h1, enc]
theorem run_law_height_0 (hsum : Has T f_law_sum_0) (htim : Has T f_law_times_0) (h : Has T f_law_height_0) (hlow : ∀ t b, 0 < b → run real exc glb T n "_law_low" [.int t, .int b] = some (.ok (enc (Rat.divInt t b)))) {B X : Nat} {qs : List Rat} {x : Rat} (hx : Rb X x) (hq : ∀ q ∈ qs, Rb B q) (hl : qs.length ≤ 10) (hs : X + B ≤ 2 ^ 19) :
    run real exc glb T (n + 2) "_law_height" [.lst .sh (qs.map enc), enc x] = some (.ok (enc (hornerQ qs x))) := by
  obtain ⟨h1, _⟩ := loop_all (C := ctx real exc glb T (n + 1)) (tg := .one 4) (b := (nthS 2 c_law_height_0).bodyOf) enc (fun (a : Rat × Rat) => [.lst .sh (qs.map enc), enc x, enc a.1, enc a.2, .hole]) (fun a q => (a.1 + q * a.2, a.2 * x)) qs (fun k a => Rb (1 + k * (3 + B + 10 * X)) a.1 ∧ Rb (1 + k * X) a.2) (0, 1) ⟨⟨by show (0 : Nat) < 2 ^ _; exact Nat.pow_pos (by decide), by show 1 < 2 ^ _; exact Nat.one_lt_two_pow (by omega)⟩, ⟨by show 1 < 2 ^ _; exact Nat.one_lt_two_pow (by omega), by show 1 < 2 ^ _; exact Nat.one_lt_two_pow (by omega)⟩⟩ (fun k a q hk ha => by
    have hq1 := hq q (List.mem_of_getElem? hk)
    have hk := get_lt hk
    obtain ⟨ha1, ha2⟩ := ha
    have hm : k * X ≤ 10 * X := Nat.mul_le_mul_right _ (by omega)
    have hm2 : k * (3 + B + 10 * X) ≤ 10 * (3 + B + 10 * X) := Nat.mul_le_mul_right _ (by omega)
    have e1 := run_law_times_0 (exc := exc) (glb := glb) (n := n) htim hlow hq1 ha2 (by omega)
    have r1 := hq1.mul ha2
    have e2 := run_law_sum_0 (exc := exc) (glb := glb) (n := n) hsum hlow ha1 r1 (by omega)
    have e3 := run_law_times_0 (exc := exc) (glb := glb) (n := n) htim hlow ha2 hx (by omega)
    have hstep : (k + 1) * (3 + B + 10 * X) = k * (3 + B + 10 * X) + (3 + B + 10 * X) := Nat.succ_mul k _
    refine ⟨?_, (ha1.add r1).mono (by omega), (ha2.mul hx).mono (by rw [Nat.succ_mul]; omega)⟩
    unfold enc at e1 e2 e3
    simp only [bodF, c_law_height_0, nthS, S.bodyOf, evE_mv, evE_fr, evE_bo, evE_lit, evE_glb, evE_shr, evE_bin, evE_neg, evE_not, evE_and, evE_or, evE_cmp, evE_ix, evE_pth, evE_sl, evE_tup, evE_lst, evE_call, evE_bi, evE_isi, evE_pop, evE_lrv, evE_lrg, evEs_nil, evEs_cons, evEo_no, evEo_so, evC_no, evC_so, evIt_list, evIt_rg1, evIt_rg2, evIt_rg3, evIt_rev, evIt_zip, evIt_enum, evIt_str, evIt_brw, evIt_tupi, evS_asg, evS_unp, evS_par, evS_swp, evS_set1, evS_aug, evS_mut0, evS_ex, evS_ifs, evS_scn, evS_ret, evS_rse, evS_try1, evS_try2, evS_brk, evS_cnt, evS_pas, evS_kil, evSs_nil, evSs_cons, sq_nx, sq_rt, sq_bk, sq_ct, sq_ex, evS_whl, evS_frs, evE_lc, bnd, sbnd, obnd, raw, res, resL, rawL, valsL, anyBor, opBin, opCmp, opBi, biAbs, biInt, biStr, biLen, biList, biSum, biMax, biMin, biAll, Itr.bk, putBack, itemsOf, hkGo, boolsOf, opNeg, opNot, ixD, slD, litD, atom, isD, D.share, shareL, D.isHole, D.whole, wholeL, D.noOw, noOwL, D.noSh, noShL, stIx, owAt, asB, setTg, putE, mutD, mtAppend, mtExtend, mtPop, mtClear, mtInsert, kill, List.foldl_cons, List.foldl_nil, List.getElem?_cons_zero, List.getElem?_cons_succ, List.getElem?_nil, List.set_cons_zero, List.set_cons_succ, List.length_cons, List.length_nil, Bool.and_true, Bool.true_and, Bool.and_false, Bool.false_and, Bool.not_true, Bool.not_false, cond_true, cond_false, if_true, if_false, ite_true, ite_false, reduceIte, reduceCtorEq, Bool.false_eq_true, startE, List.replicate, List.append_eq, List.nil_append, List.cons_append, List.append_nil, fin, TV.atI0, TV.atI1, Option.bind_some, Option.map_some, Bool.and_self, Bool.or_self, Nat.reduceSub, Nat.reduceAdd, Nat.reduceEqDiff, Bool.not_eq_true, Bool.and_eq_true, decide_true, decide_false, real_eq_int, real_eq_bl, real_eq_non, real_eq_enc, real_eq_enc2, eqD_int, eqD_bl, eqD_pair, Int.reduceEq, Int.reduceToNat, Int.reduceLE, Int.reduceLT, nab10, nab2, castn0, castn1, castn2, castn3, castn4, castn5, Nat.reduceLT, and_self, and_true, true_and, and_false, false_and, if_pos trivial, not_true_eq_false, not_false_eq_true, Bool.or_true, Bool.or_false, Bool.true_or, Bool.false_or, enc, e1, e2, e3])
  have hr := height_fold x qs 0 1
  have hr2 : (qs.foldl (fun (a : Rat × Rat) q => (a.1 + q * a.2, a.2 * x)) (0, 1)).1 = hornerQ qs x := by rw [hr]; grind
  generalize qs.foldl (fun (a : Rat × Rat) q => (a.1 + q * a.2, a.2 * x)) (0, 1) = y at h1 hr2
  rw [← hr2]
  rw [run_eq (f := "_law_height") (d := f_law_height_0) h rfl]
  show fin (evSs (ctx real exc glb T (n + 1)) c_law_height_0 [.lst .sh (qs.map enc), enc x, .hole, .hole, .hole]) = _
  have e0 : enc 0 = .tup [.int 0, .int 1] := rfl
  have e1 : enc 1 = .tup [.int 1, .int 1] := rfl
  have ho := noOwL_encs qs
  simp only [e0, e1] at h1
  simp only [c_law_height_0, nthS, S.bodyOf] at h1
  generalize qs.map enc = l at *
  unfold enc at h1
  simp only [c_law_height_0, evE_mv, evE_fr, evE_bo, evE_lit, evE_glb, evE_shr, evE_bin, evE_neg, evE_not, evE_and, evE_or, evE_cmp, evE_ix, evE_pth, evE_sl, evE_tup, evE_lst, evE_call, evE_bi, evE_isi, evE_pop, evE_lrv, evE_lrg, evEs_nil, evEs_cons, evEo_no, evEo_so, evC_no, evC_so, evIt_list, evIt_rg1, evIt_rg2, evIt_rg3, evIt_rev, evIt_zip, evIt_enum, evIt_str, evIt_brw, evIt_tupi, evS_asg, evS_unp, evS_par, evS_swp, evS_set1, evS_aug, evS_mut0, evS_ex, evS_ifs, evS_scn, evS_ret, evS_rse, evS_try1, evS_try2, evS_brk, evS_cnt, evS_pas, evS_kil, evSs_nil, evSs_cons, sq_nx, sq_rt, sq_bk, sq_ct, sq_ex, evS_whl, evS_frs, evE_lc, bnd, sbnd, obnd, raw, res, resL, rawL, valsL, anyBor, opBin, opCmp, opBi, biAbs, biInt, biStr, biLen, biList, biSum, biMax, biMin, biAll, Itr.bk, putBack, itemsOf, hkGo, boolsOf, opNeg, opNot, ixD, slD, litD, atom, isD, D.share, shareL, D.isHole, D.whole, wholeL, D.noOw, noOwL, D.noSh, noShL, stIx, owAt, asB, setTg, putE, mutD, mtAppend, mtExtend, mtPop, mtClear, mtInsert, kill, List.foldl_cons, List.foldl_nil, List.getElem?_cons_zero, List.getElem?_cons_succ, List.getElem?_nil, List.set_cons_zero, List.set_cons_succ, List.length_cons, List.length_nil, Bool.and_true, Bool.true_and, Bool.and_false, Bool.false_and, Bool.not_true, Bool.not_false, cond_true, cond_false, if_true, if_false, ite_true, ite_false, reduceIte, reduceCtorEq, Bool.false_eq_true, startE, List.replicate, List.append_eq, List.nil_append, List.cons_append, List.append_nil, fin, TV.atI0, TV.atI1, Option.bind_some, Option.map_some, Bool.and_self, Bool.or_self, Nat.reduceSub, Nat.reduceAdd, Nat.reduceEqDiff, Bool.not_eq_true, Bool.and_eq_true, decide_true, decide_false, real_eq_int, real_eq_bl, real_eq_non, real_eq_enc, real_eq_enc2, eqD_int, eqD_bl, eqD_pair, Int.reduceEq, Int.reduceToNat, Int.reduceLE, Int.reduceLT, nab10, nab2, castn0, castn1, castn2, castn3, castn4, castn5, Nat.reduceLT, and_self, and_true, true_and, and_false, false_and, if_pos trivial, not_true_eq_false, not_false_eq_true, Bool.or_true, Bool.or_false, Bool.true_or, Bool.false_or, ho, h1, enc]
theorem run_row_of (hc : Has T f_common_divisor) (hf : Has T f_fraction) (hp : Has T f_plus) (hpr : Has T f_product) (hh : Has T f_height_at) (h : Has T f_row_of) {B X : Nat} {qs : List Rat} {ms : List TvM} (hx : ∀ m ∈ ms, Rb X m.p) (hq : ∀ q ∈ qs, Rb B q) (hs : (qs.length + 2) * (X + B + 1) ≤ 2 ^ 24) (hl : ms.length < 2 ^ 24) :
    run real exc glb T (n + 5) "row_of" [.lst .sh (qs.map enc), .lst .sh (ms.map encMk)] = some (.ok (.lst .ow ((ms.map fun m => hornerQ qs m.p).map enc))) := by
  rw [run_eq (f := "row_of") (d := f_row_of) h rfl]
  have hc := comp_all (C := ctx real exc glb T (n + 4)) (elt := .call "height_at" (.cons (.bo 0) (.cons (.ix (.bo 2) (.lit (.int 0))) .nil))) (tg := .one 2) (cond := .no) (own := [2]) encMk (fun m => some (enc (hornerQ qs m.p))) [.lst .sh (qs.map enc), .lst .sh (ms.map encMk), .hole] ms (fun m hm => by
    refine ⟨[.lst .sh (qs.map enc), .lst .sh (ms.map encMk), encMk m], fun env henv => ?_, rfl⟩
    have e := (run_height_at (exc := exc) (glb := glb) (n := n) hc hf hp hpr hh (hx m hm) hq hs).1
    rw [lcF_at, henv]
    generalize qs.map enc = l at *
    generalize ms.map encMk = l2 at *
    unfold encMk
    unfold enc at *
    simp only [evE_mv, evE_fr, evE_bo, evE_lit, evE_glb, evE_shr, evE_bin, evE_neg, evE_not, evE_and, evE_or, evE_cmp, evE_ix, evE_pth, evE_sl, evE_tup, evE_lst, evE_call, evE_bi, evE_isi, evE_pop, evE_lrv, evE_lrg, evEs_nil, evEs_cons, evEo_no, evEo_so, evC_no, evC_so, evIt_list, evIt_rg1, evIt_rg2, evIt_rg3, evIt_rev, evIt_zip, evIt_enum, evIt_str, evIt_brw, evIt_tupi, evS_asg, evS_unp, evS_par, evS_swp, evS_set1, evS_aug, evS_mut0, evS_ex, evS_ifs, evS_scn, evS_ret, evS_rse, evS_try1, evS_try2, evS_brk, evS_cnt, evS_pas, evS_kil, evSs_nil, evSs_cons, sq_nx, sq_rt, sq_bk, sq_ct, sq_ex, evS_whl, evS_frs, evE_lc, bnd, sbnd, obnd, raw, res, resL, rawL, valsL, anyBor, opBin, opCmp, opBi, biAbs, biInt, biStr, biLen, biList, biSum, biMax, biMin, biAll, Itr.bk, putBack, itemsOf, hkGo, boolsOf, opNeg, opNot, ixD, slD, litD, atom, isD, D.share, shareL, D.isHole, D.whole, wholeL, D.noOw, noOwL, D.noSh, noShL, stIx, owAt, asB, setTg, putE, mutD, mtAppend, mtExtend, mtPop, mtClear, mtInsert, kill, List.foldl_cons, List.foldl_nil, List.getElem?_cons_zero, List.getElem?_cons_succ, List.getElem?_nil, List.set_cons_zero, List.set_cons_succ, List.length_cons, List.length_nil, Bool.and_true, Bool.true_and, Bool.and_false, Bool.false_and, Bool.not_true, Bool.not_false, cond_true, cond_false, if_true, if_false, ite_true, ite_false, reduceIte, reduceCtorEq, Bool.false_eq_true, startE, List.replicate, List.append_eq, List.nil_append, List.cons_append, List.append_nil, fin, TV.atI0, TV.atI1, Option.bind_some, Option.map_some, Bool.and_self, Bool.or_self, Nat.reduceSub, Nat.reduceAdd, Nat.reduceEqDiff, Bool.not_eq_true, Bool.and_eq_true, decide_true, decide_false, real_eq_int, real_eq_bl, real_eq_non, real_eq_enc, real_eq_enc2, eqD_int, eqD_bl, eqD_pair, Int.reduceEq, Int.reduceToNat, Int.reduceLE, Int.reduceLT, nab10, nab2, castn0, castn1, castn2, castn3, castn4, castn5, Nat.reduceLT, and_self, and_true, true_and, and_false, false_and, if_pos trivial, not_true_eq_false, not_false_eq_true, Bool.or_true, Bool.or_false, Bool.true_or, Bool.false_or, e]) [.lst .sh (qs.map enc), .lst .sh (ms.map encMk), .hole] rfl
  rw [filterMap_some (fun m : TvM => enc (hornerQ qs m.p))] at hc
  have hlen : real.len ((ms.map encMk).length) = true := real_len (by rw [List.length_map]; exact hl)
  have ho := noOwL_encMk ms
  rw [List.map_map]
  show fin (evSs (ctx real exc glb T (n + 4)) c_row_of [.lst .sh (qs.map enc), .lst .sh (ms.map encMk), .hole]) = _
  have ef : (enc ∘ fun m : TvM => hornerQ qs m.p) = fun m => enc (hornerQ qs m.p) := rfl
  rw [ef]
  generalize ms.map (fun m => enc (hornerQ qs m.p)) = rr at *
  generalize qs.map enc = l at *
  generalize ms.map encMk = l2 at *
  simp only [c_row_of, evE_mv, evE_fr, evE_bo, evE_lit, evE_glb, evE_shr, evE_bin, evE_neg, evE_not, evE_and, evE_or, evE_cmp, evE_ix, evE_pth, evE_sl, evE_tup, evE_lst, evE_call, evE_bi, evE_isi, evE_pop, evE_lrv, evE_lrg, evEs_nil, evEs_cons, evEo_no, evEo_so, evC_no, evC_so, evIt_list, evIt_rg1, evIt_rg2, evIt_rg3, evIt_rev, evIt_zip, evIt_enum, evIt_str, evIt_brw, evIt_tupi, evS_asg, evS_unp, evS_par, evS_swp, evS_set1, evS_aug, evS_mut0, evS_ex, evS_ifs, evS_scn, evS_ret, evS_rse, evS_try1, evS_try2, evS_brk, evS_cnt, evS_pas, evS_kil, evSs_nil, evSs_cons, sq_nx, sq_rt, sq_bk, sq_ct, sq_ex, evS_whl, evS_frs, evE_lc, bnd, sbnd, obnd, raw, res, resL, rawL, valsL, anyBor, opBin, opCmp, opBi, biAbs, biInt, biStr, biLen, biList, biSum, biMax, biMin, biAll, Itr.bk, putBack, itemsOf, hkGo, boolsOf, opNeg, opNot, ixD, slD, litD, atom, isD, D.share, shareL, D.isHole, D.whole, wholeL, D.noOw, noOwL, D.noSh, noShL, stIx, owAt, asB, setTg, putE, mutD, mtAppend, mtExtend, mtPop, mtClear, mtInsert, kill, List.foldl_cons, List.foldl_nil, List.getElem?_cons_zero, List.getElem?_cons_succ, List.getElem?_nil, List.set_cons_zero, List.set_cons_succ, List.length_cons, List.length_nil, Bool.and_true, Bool.true_and, Bool.and_false, Bool.false_and, Bool.not_true, Bool.not_false, cond_true, cond_false, if_true, if_false, ite_true, ite_false, reduceIte, reduceCtorEq, Bool.false_eq_true, startE, List.replicate, List.append_eq, List.nil_append, List.cons_append, List.append_nil, fin, TV.atI0, TV.atI1, Option.bind_some, Option.map_some, Bool.and_self, Bool.or_self, Nat.reduceSub, Nat.reduceAdd, Nat.reduceEqDiff, Bool.not_eq_true, Bool.and_eq_true, decide_true, decide_false, real_eq_int, real_eq_bl, real_eq_non, real_eq_enc, real_eq_enc2, eqD_int, eqD_bl, eqD_pair, Int.reduceEq, Int.reduceToNat, Int.reduceLE, Int.reduceLT, nab10, nab2, castn0, castn1, castn2, castn3, castn4, castn5, Nat.reduceLT, and_self, and_true, true_and, and_false, false_and, if_pos trivial, not_true_eq_false, not_false_eq_true, Bool.or_true, Bool.or_false, Bool.true_or, Bool.false_or, ho, hlen, hc]
theorem run_law_divisor_1 (h : Has T f_law_divisor_1) (a b : Int) (hb : 0 ≤ b) : run real exc glb T (n + 1) "_law_divisor" [.int a, .int b] = some (.ok (.int (Int.gcd a b))) := by
  rw [run_eq (f := "_law_divisor") (d := f_law_divisor_1) h rfl]
  obtain ⟨z, hz⟩ := gcd_loop (C := ctx real exc glb T n) b.natAbs (if a < 0 then -a else a) b (by split <;> omega) (by omega)
  have hz : loopW (ctx real exc glb T n) _ _ _ = _ := whP_of hz
  rw [gcd_absl] at hz
  simp only [c_law_divisor_1, f_law_divisor_1, evE_mv, evE_fr, evE_bo, evE_lit, evE_glb, evE_shr, evE_bin, evE_neg, evE_not, evE_and, evE_or, evE_cmp, evE_ix, evE_pth, evE_sl, evE_tup, evE_lst, evE_call, evE_bi, evE_isi, evE_pop, evE_lrv, evE_lrg, evEs_nil, evEs_cons, evEo_no, evEo_so, evC_no, evC_so, evIt_list, evIt_rg1, evIt_rg2, evIt_rg3, evIt_rev, evIt_zip, evIt_enum, evIt_str, evIt_brw, evIt_tupi, evS_asg, evS_unp, evS_par, evS_swp, evS_set1, evS_aug, evS_mut0, evS_ex, evS_ifs, evS_scn, evS_ret, evS_rse, evS_try1, evS_try2, evS_brk, evS_cnt, evS_pas, evS_kil, evSs_nil, evSs_cons, sq_nx, sq_rt, sq_bk, sq_ct, sq_ex, evS_whl, evS_frs, evE_lc, bnd, sbnd, obnd, raw, res, resL, rawL, valsL, anyBor, opBin, opCmp, opBi, biAbs, biInt, biStr, biLen, biList, biSum, biMax, biMin, biAll, Itr.bk, putBack, itemsOf, hkGo, boolsOf, opNeg, opNot, ixD, slD, litD, atom, isD, D.share, shareL, D.isHole, D.whole, wholeL, D.noOw, noOwL, D.noSh, noShL, stIx, owAt, asB, setTg, putE, mutD, mtAppend, mtExtend, mtPop, mtClear, mtInsert, kill, List.foldl_cons, List.foldl_nil, List.getElem?_cons_zero, List.getElem?_cons_succ, List.getElem?_nil, List.set_cons_zero, List.set_cons_succ, List.length_cons, List.length_nil, Bool.and_true, Bool.true_and, Bool.and_false, Bool.false_and, Bool.not_true, Bool.not_false, cond_true, cond_false, if_true, if_false, ite_true, ite_false, reduceIte, reduceCtorEq, Bool.false_eq_true, startE, List.replicate, List.append_eq, List.nil_append, List.cons_append, List.append_nil, fin, TV.atI0, TV.atI1, Option.bind_some, Option.map_some, Bool.and_self, Bool.or_self, Nat.reduceSub, Nat.reduceAdd, Nat.reduceEqDiff, Bool.not_eq_true, Bool.and_eq_true, decide_true, decide_false, real_eq_int, real_eq_bl, real_eq_non, real_eq_enc, real_eq_enc2, eqD_int, eqD_bl, eqD_pair, Int.reduceEq, Int.reduceToNat, Int.reduceLE, Int.reduceLT, nab10, nab2, castn0, castn1, castn2, castn3, castn4, castn5, Nat.reduceLT, and_self, and_true, true_and, and_false, false_and, if_pos trivial, not_true_eq_false, not_false_eq_true, Bool.or_true, Bool.or_false, Bool.true_or, Bool.false_or, hz]
theorem run_law_low_1 (hd : Has T f_law_divisor_1) (h : Has T f_law_low_1) (t b : Int) (hb : 0 < b) : run real exc glb T (n + 2) "_law_low" [.int t, .int b] = some (.ok (enc (Rat.divInt t b))) := by
  rw [run_eq (f := "_law_low") (d := f_law_low_1) h rfl]
  have e := run_law_divisor_1 (exc := exc) (glb := glb) (n := n) hd t b (by omega)
  obtain ⟨k1, k2, k3⟩ := low_by_hand t b hb
  simp only [c_law_low_1, f_law_low_1, evE_mv, evE_fr, evE_bo, evE_lit, evE_glb, evE_shr, evE_bin, evE_neg, evE_not, evE_and, evE_or, evE_cmp, evE_ix, evE_pth, evE_sl, evE_tup, evE_lst, evE_call, evE_bi, evE_isi, evE_pop, evE_lrv, evE_lrg, evEs_nil, evEs_cons, evEo_no, evEo_so, evC_no, evC_so, evIt_list, evIt_rg1, evIt_rg2, evIt_rg3, evIt_rev, evIt_zip, evIt_enum, evIt_str, evIt_brw, evIt_tupi, evS_asg, evS_unp, evS_par, evS_swp, evS_set1, evS_aug, evS_mut0, evS_ex, evS_ifs, evS_scn, evS_ret, evS_rse, evS_try1, evS_try2, evS_brk, evS_cnt, evS_pas, evS_kil, evSs_nil, evSs_cons, sq_nx, sq_rt, sq_bk, sq_ct, sq_ex, evS_whl, evS_frs, evE_lc, bnd, sbnd, obnd, raw, res, resL, rawL, valsL, anyBor, opBin, opCmp, opBi, biAbs, biInt, biStr, biLen, biList, biSum, biMax, biMin, biAll, Itr.bk, putBack, itemsOf, hkGo, boolsOf, opNeg, opNot, ixD, slD, litD, atom, isD, D.share, shareL, D.isHole, D.whole, wholeL, D.noOw, noOwL, D.noSh, noShL, stIx, owAt, asB, setTg, putE, mutD, mtAppend, mtExtend, mtPop, mtClear, mtInsert, kill, List.foldl_cons, List.foldl_nil, List.getElem?_cons_zero, List.getElem?_cons_succ, List.getElem?_nil, List.set_cons_zero, List.set_cons_succ, List.length_cons, List.length_nil, Bool.and_true, Bool.true_and, Bool.and_false, Bool.false_and, Bool.not_true, Bool.not_false, cond_true, cond_false, if_true, if_false, ite_true, ite_false, reduceIte, reduceCtorEq, Bool.false_eq_true, startE, List.replicate, List.append_eq, List.nil_append, List.cons_append, List.append_nil, fin, TV.atI0, TV.atI1, Option.bind_some, Option.map_some, Bool.and_self, Bool.or_self, Nat.reduceSub, Nat.reduceAdd, Nat.reduceEqDiff, Bool.not_eq_true, Bool.and_eq_true, decide_true, decide_false, real_eq_int, real_eq_bl, real_eq_non, real_eq_enc, real_eq_enc2, eqD_int, eqD_bl, eqD_pair, Int.reduceEq, Int.reduceToNat, Int.reduceLE, Int.reduceLT, nab10, nab2, castn0, castn1, castn2, castn3, castn4, castn5, Nat.reduceLT, and_self, and_true, true_and, and_false, false_and, if_pos trivial, not_true_eq_false, not_false_eq_true, Bool.or_true, Bool.or_false, Bool.true_or, Bool.false_or, e, k1, k2, k3, enc]
def cellQ (ns : List Int) (k : Nat) : Int := if k < ns.length then ns.getD k 0 else 5 * (k : Int) * k + 9 * k + 2
theorem run_law_cell_0 (h : Has T f_law_cell_0) (kd : LK) (ns : List Int) (k : Nat) (hk : k ≤ 1000) : run real exc glb T (n + 1) "_law_cell" [.lst kd (ns.map D.int), .int (k : Int)] = some (.ok (.int (cellQ ns k))) := by
  rw [run_eq (f := "_law_cell") (d := f_law_cell_0) h rfl]
  have hlen : (ns.map D.int).length = ns.length := List.length_map ..
  unfold cellQ
  have kb : Bd 10 (k : Int) := Bd.of (by omega) (by omega)
  have m1 : real.mul 5 (k : Int) = true := mul_real (n := 3) (by decide) kb (by decide)
  have m2 : real.mul (5 * (k : Int)) (k : Int) = true := mul_real (n := 13) (Bd.of (by omega) (by omega)) kb (by decide)
  have m3 : real.mul 9 (k : Int) = true := mul_real (n := 4) (by decide) kb (by decide)
  by_cases hk : k < ns.length
  · have a := atI_ints ns k hk
    have z : (k : Int) < (ns.length : Int) := by omega
    simp only [c_law_cell_0, f_law_cell_0, evE_mv, evE_fr, evE_bo, evE_lit, evE_glb, evE_shr, evE_bin, evE_neg, evE_not, evE_and, evE_or, evE_cmp, evE_ix, evE_pth, evE_sl, evE_tup, evE_lst, evE_call, evE_bi, evE_isi, evE_pop, evE_lrv, evE_lrg, evEs_nil, evEs_cons, evEo_no, evEo_so, evC_no, evC_so, evIt_list, evIt_rg1, evIt_rg2, evIt_rg3, evIt_rev, evIt_zip, evIt_enum, evIt_str, evIt_brw, evIt_tupi, evS_asg, evS_unp, evS_par, evS_swp, evS_set1, evS_aug, evS_mut0, evS_ex, evS_ifs, evS_scn, evS_ret, evS_rse, evS_try1, evS_try2, evS_brk, evS_cnt, evS_pas, evS_kil, evSs_nil, evSs_cons, sq_nx, sq_rt, sq_bk, sq_ct, sq_ex, evS_whl, evS_frs, evE_lc, bnd, sbnd, obnd, raw, res, resL, rawL, valsL, anyBor, opBin, opCmp, opBi, biAbs, biInt, biStr, biLen, biList, biSum, biMax, biMin, biAll, Itr.bk, putBack, itemsOf, hkGo, boolsOf, opNeg, opNot, ixD, slD, litD, atom, isD, D.share, shareL, D.isHole, D.whole, wholeL, D.noOw, noOwL, D.noSh, noShL, stIx, owAt, asB, setTg, putE, mutD, mtAppend, mtExtend, mtPop, mtClear, mtInsert, kill, List.foldl_cons, List.foldl_nil, List.getElem?_cons_zero, List.getElem?_cons_succ, List.getElem?_nil, List.set_cons_zero, List.set_cons_succ, List.length_cons, List.length_nil, Bool.and_true, Bool.true_and, Bool.and_false, Bool.false_and, Bool.not_true, Bool.not_false, cond_true, cond_false, if_true, if_false, ite_true, ite_false, reduceIte, reduceCtorEq, Bool.false_eq_true, startE, List.replicate, List.append_eq, List.nil_append, List.cons_append, List.append_nil, fin, TV.atI0, TV.atI1, Option.bind_some, Option.map_some, Bool.and_self, Bool.or_self, Nat.reduceSub, Nat.reduceAdd, Nat.reduceEqDiff, Bool.not_eq_true, Bool.and_eq_true, decide_true, decide_false, real_eq_int, real_eq_bl, real_eq_non, real_eq_enc, real_eq_enc2, eqD_int, eqD_bl, eqD_pair, Int.reduceEq, Int.reduceToNat, Int.reduceLE, Int.reduceLT, nab10, nab2, castn0, castn1, castn2, castn3, castn4, castn5, Nat.reduceLT, and_self, and_true, true_and, and_false, false_and, if_pos trivial, not_true_eq_false, not_false_eq_true, Bool.or_true, Bool.or_false, Bool.true_or, Bool.false_or, hlen, z, a, hk]
  · have z : ¬ (k : Int) < (ns.length : Int) := by omega
    simp only [c_law_cell_0, f_law_cell_0, evE_mv, evE_fr, evE_bo, evE_lit, evE_glb, evE_shr, evE_bin, evE_neg, evE_not, evE_and, evE_or, evE_cmp, evE_ix, evE_pth, evE_sl, evE_tup, evE_lst, evE_call, evE_bi, evE_isi, evE_pop, evE_lrv, evE_lrg, evEs_nil, evEs_cons, evEo_no, evEo_so, evC_no, evC_so, evIt_list, evIt_rg1, evIt_rg2, evIt_rg3, evIt_rev, evIt_zip, evIt_enum, evIt_str, evIt_brw, evIt_tupi, evS_asg, evS_unp, evS_par, evS_swp, evS_set1, evS_aug, evS_mut0, evS_ex, evS_ifs, evS_scn, evS_ret, evS_rse, evS_try1, evS_try2, evS_brk, evS_cnt, evS_pas, evS_kil, evSs_nil, evSs_cons, sq_nx, sq_rt, sq_bk, sq_ct, sq_ex, evS_whl, evS_frs, evE_lc, bnd, sbnd, obnd, raw, res, resL, rawL, valsL, anyBor, opBin, opCmp, opBi, biAbs, biInt, biStr, biLen, biList, biSum, biMax, biMin, biAll, Itr.bk, putBack, itemsOf, hkGo, boolsOf, opNeg, opNot, ixD, slD, litD, atom, isD, D.share, shareL, D.isHole, D.whole, wholeL, D.noOw, noOwL, D.noSh, noShL, stIx, owAt, asB, setTg, putE, mutD, mtAppend, mtExtend, mtPop, mtClear, mtInsert, kill, List.foldl_cons, List.foldl_nil, List.getElem?_cons_zero, List.getElem?_cons_succ, List.getElem?_nil, List.set_cons_zero, List.set_cons_succ, List.length_cons, List.length_nil, Bool.and_true, Bool.true_and, Bool.and_false, Bool.false_and, Bool.not_true, Bool.not_false, cond_true, cond_false, if_true, if_false, ite_true, ite_false, reduceIte, reduceCtorEq, Bool.false_eq_true, startE, List.replicate, List.append_eq, List.nil_append, List.cons_append, List.append_nil, fin, TV.atI0, TV.atI1, Option.bind_some, Option.map_some, Bool.and_self, Bool.or_self, Nat.reduceSub, Nat.reduceAdd, Nat.reduceEqDiff, Bool.not_eq_true, Bool.and_eq_true, decide_true, decide_false, real_eq_int, real_eq_bl, real_eq_non, real_eq_enc, real_eq_enc2, eqD_int, eqD_bl, eqD_pair, Int.reduceEq, Int.reduceToNat, Int.reduceLE, Int.reduceLT, nab10, nab2, castn0, castn1, castn2, castn3, castn4, castn5, Nat.reduceLT, and_self, and_true, true_and, and_false, false_and, if_pos trivial, not_true_eq_false, not_false_eq_true, Bool.or_true, Bool.or_false, Bool.true_or, Bool.false_or, hlen, z, hk, m1, m2, m3]
theorem cellQ_bd {ns : List Int} (hns : ∀ c ∈ ns, Bd (2 ^ 20) c) (k : Nat) (hk : k ≤ 1000) : Bd (2 ^ 20) (cellQ ns k) := by
  unfold cellQ
  split
  · next h =>
    rw [List.getD_eq_getElem?_getD, List.getElem?_eq_getElem h]
    exact hns _ (List.getElem_mem h)
  · have kb : Bd 10 (k : Int) := Bd.of (by omega) (by omega)
    have h5 : Bd 3 5 := by decide
    have h9 : Bd 4 9 := by decide
    exact ((((h5.mul kb).mul kb).add (h9.mul kb)).add (m := 2) (by decide)).mono (by decide)
def fracQ (c s : Int) : Rat := if c.fmod 4 = 0 then Rat.divInt ((c.fdiv 4 * (1732050807568877293 * 10 ^ 11 + 31)).fmod (2 * 10 ^ 30 + 1) - 10 ^ 30) s else Rat.divInt ((c.fdiv 4).fmod 41 - 20) (1 + (c.fdiv 164).fmod 12)
theorem fracQ_bd (c s : Int) (hs : 0 < s) (hb : Bd 100 s) : Rb 120 (fracQ c s) := by
  unfold fracQ
  have q1 := Int.fmod_nonneg_of_pos (c.fdiv 164) (b := 12) (by decide)
  split
  · exact Rb.divInt (((fmod_bd (n := 105) (by decide +kernel) (by decide +kernel)).sub (m := 105) (by decide +kernel)).mono (by decide)) (hb.mono (by decide)) (by omega)
  · exact Rb.divInt (((fmod_bd (n := 6) (by decide) (by decide)).sub (m := 6) (by decide)).mono (by decide)) ((Bd.add (n := 1) (m := 6) (by decide) (fmod_bd (by decide) (by decide))).mono (by decide)) (by omega)
theorem run_law_fraction_0 (hlow : ∀ t b, 0 < b → run real exc glb T n "_law_low" [.int t, .int b] = some (.ok (enc (Rat.divInt t b)))) (h : Has T f_law_fraction_0) (c s : Int) (hc : Bd (2 ^ 22) c) (hs : 0 < s) : run real exc glb T (n + 1) "_law_fraction" [.int c, .int s] = some (.ok (enc (fracQ c s))) := by
  rw [run_eq (f := "_law_fraction") (d := f_law_fraction_0) h rfl]
  have q1 := Int.fmod_nonneg_of_pos (c.fdiv 164) (b := 12) (by decide)
  have e1 := hlow ((c.fdiv 4 * (1732050807568877293 * 10 ^ 11 + 31)).fmod (2 * 10 ^ 30 + 1) - 10 ^ 30) s hs
  have e2 := hlow ((c.fdiv 4).fmod 41 - 20) (1 + (c.fdiv 164).fmod 12) (by omega)
  have m1 : real.mul 1732050807568877293 (10 ^ 11) = true := by decide +kernel
  have m2 : real.mul (c.fdiv 4) (1732050807568877293 * 10 ^ 11 + 31) = true := mul_real (m := 110) (fdiv_bd hc (by decide)) (by decide +kernel) (by decide)
  have m3 : real.mul 2 (10 ^ 30) = true := by decide +kernel
  have m4 : (2 * 10 ^ 30 + 1 : Int) ≠ 0 := by decide +kernel
  unfold fracQ
  by_cases c1 : c.fmod 4 = 0
  · simp only [c_law_fraction_0, f_law_fraction_0, evE_mv, evE_fr, evE_bo, evE_lit, evE_glb, evE_shr, evE_bin, evE_neg, evE_not, evE_and, evE_or, evE_cmp, evE_ix, evE_pth, evE_sl, evE_tup, evE_lst, evE_call, evE_bi, evE_isi, evE_pop, evE_lrv, evE_lrg, evEs_nil, evEs_cons, evEo_no, evEo_so, evC_no, evC_so, evIt_list, evIt_rg1, evIt_rg2, evIt_rg3, evIt_rev, evIt_zip, evIt_enum, evIt_str, evIt_brw, evIt_tupi, evS_asg, evS_unp, evS_par, evS_swp, evS_set1, evS_aug, evS_mut0, evS_ex, evS_ifs, evS_scn, evS_ret, evS_rse, evS_try1, evS_try2, evS_brk, evS_cnt, evS_pas, evS_kil, evSs_nil, evSs_cons, sq_nx, sq_rt, sq_bk, sq_ct, sq_ex, evS_whl, evS_frs, evE_lc, bnd, sbnd, obnd, raw, res, resL, rawL, valsL, anyBor, opBin, opCmp, opBi, biAbs, biInt, biStr, biLen, biList, biSum, biMax, biMin, biAll, Itr.bk, putBack, itemsOf, hkGo, boolsOf, opNeg, opNot, ixD, slD, litD, atom, isD, D.share, shareL, D.isHole, D.whole, wholeL, D.noOw, noOwL, D.noSh, noShL, stIx, owAt, asB, setTg, putE, mutD, mtAppend, mtExtend, mtPop, mtClear, mtInsert, kill, List.foldl_cons, List.foldl_nil, List.getElem?_cons_zero, List.getElem?_cons_succ, List.getElem?_nil, List.set_cons_zero, List.set_cons_succ, List.length_cons, List.length_nil, Bool.and_true, Bool.true_and, Bool.and_false, Bool.false_and, Bool.not_true, Bool.not_false, cond_true, cond_false, if_true, if_false, ite_true, ite_false, reduceIte, reduceCtorEq, Bool.false_eq_true, startE, List.replicate, List.append_eq, List.nil_append, List.cons_append, List.append_nil, fin, TV.atI0, TV.atI1, Option.bind_some, Option.map_some, Bool.and_self, Bool.or_self, Nat.reduceSub, Nat.reduceAdd, Nat.reduceEqDiff, Bool.not_eq_true, Bool.and_eq_true, decide_true, decide_false, real_eq_int, real_eq_bl, real_eq_non, real_eq_enc, real_eq_enc2, eqD_int, eqD_bl, eqD_pair, Int.reduceEq, Int.reduceToNat, Int.reduceLE, Int.reduceLT, nab10, nab2, castn0, castn1, castn2, castn3, castn4, castn5, Nat.reduceLT, and_self, and_true, true_and, and_false, false_and, if_pos trivial, not_true_eq_false, not_false_eq_true, Bool.or_true, Bool.or_false, Bool.true_or, Bool.false_or, enc, c1, m1, m2, m3, m4, e1]
  · simp only [c_law_fraction_0, f_law_fraction_0, evE_mv, evE_fr, evE_bo, evE_lit, evE_glb, evE_shr, evE_bin, evE_neg, evE_not, evE_and, evE_or, evE_cmp, evE_ix, evE_pth, evE_sl, evE_tup, evE_lst, evE_call, evE_bi, evE_isi, evE_pop, evE_lrv, evE_lrg, evEs_nil, evEs_cons, evEo_no, evEo_so, evC_no, evC_so, evIt_list, evIt_rg1, evIt_rg2, evIt_rg3, evIt_rev, evIt_zip, evIt_enum, evIt_str, evIt_brw, evIt_tupi, evS_asg, evS_unp, evS_par, evS_swp, evS_set1, evS_aug, evS_mut0, evS_ex, evS_ifs, evS_scn, evS_ret, evS_rse, evS_try1, evS_try2, evS_brk, evS_cnt, evS_pas, evS_kil, evSs_nil, evSs_cons, sq_nx, sq_rt, sq_bk, sq_ct, sq_ex, evS_whl, evS_frs, evE_lc, bnd, sbnd, obnd, raw, res, resL, rawL, valsL, anyBor, opBin, opCmp, opBi, biAbs, biInt, biStr, biLen, biList, biSum, biMax, biMin, biAll, Itr.bk, putBack, itemsOf, hkGo, boolsOf, opNeg, opNot, ixD, slD, litD, atom, isD, D.share, shareL, D.isHole, D.whole, wholeL, D.noOw, noOwL, D.noSh, noShL, stIx, owAt, asB, setTg, putE, mutD, mtAppend, mtExtend, mtPop, mtClear, mtInsert, kill, List.foldl_cons, List.foldl_nil, List.getElem?_cons_zero, List.getElem?_cons_succ, List.getElem?_nil, List.set_cons_zero, List.set_cons_succ, List.length_cons, List.length_nil, Bool.and_true, Bool.true_and, Bool.and_false, Bool.false_and, Bool.not_true, Bool.not_false, cond_true, cond_false, if_true, if_false, ite_true, ite_false, reduceIte, reduceCtorEq, Bool.false_eq_true, startE, List.replicate, List.append_eq, List.nil_append, List.cons_append, List.append_nil, fin, TV.atI0, TV.atI1, Option.bind_some, Option.map_some, Bool.and_self, Bool.or_self, Nat.reduceSub, Nat.reduceAdd, Nat.reduceEqDiff, Bool.not_eq_true, Bool.and_eq_true, decide_true, decide_false, real_eq_int, real_eq_bl, real_eq_non, real_eq_enc, real_eq_enc2, eqD_int, eqD_bl, eqD_pair, Int.reduceEq, Int.reduceToNat, Int.reduceLE, Int.reduceLT, nab10, nab2, castn0, castn1, castn2, castn3, castn4, castn5, Nat.reduceLT, and_self, and_true, true_and, and_false, false_and, if_pos trivial, not_true_eq_false, not_false_eq_true, Bool.or_true, Bool.or_false, Bool.true_or, Bool.false_or, enc, c1, e2]
end
end TV
namespace TV
open PySem PySem.Spec PyProof.Rows L2
theorem zip2_map {α β : Type} (f : α → D) (g : β → D) : ∀ (as : List α) (bs : List β), zip2D (as.map f) (bs.map g) = (as.zip bs).map fun p => .tup [f p.1, g p.2]
  | [], _ => rfl
  | _ :: _, [] => rfl
  | a :: as, b :: bs => by rw [List.map_cons, List.map_cons, zip2D, zip2_map f g as bs]; rfl
theorem enc_int (w : Int) : enc (w : Rat) = .tup [.int w, .int 1] := by
  unfold enc
  rw [Rat.num_intCast, Rat.den_intCast]; rfl
theorem Rb.int {n : Nat} {w : Int} (h : Bd n w) (hn : 0 < n) : Rb n (w : Rat) := by
  refine ⟨by rw [Rat.num_intCast]; exact h, ?_⟩
  rw [Rat.den_intCast]
  exact Nat.one_lt_two_pow (by omega)
theorem zip_range {α β γ : Type} (da : α) (db : β) (f : α → β → γ) (as : List α) (bs : List β) (h : as.length = bs.length) : (List.range as.length).map (fun k => f (as.getD k da) (bs.getD k db)) = (as.zip bs).map fun p => f p.1 p.2 := by
  apply List.ext_getElem
  · simp [h]
  · intro i h1 h2
    simp at h1 h2
    have h3 : i < bs.length := by omega
    simp [List.getElem?_eq_getElem, h1, h3]
theorem lay_all {b : Nat} : ∀ {ds : List D}, (∀ d ∈ ds, d.py.canLay0 = true ∧ d.py.depth ≤ b) → PyData.canLayAll0 (pyL ds) = true ∧ PyData.depthAll (pyL ds) ≤ b
  | [], _ => by simp [pyL, PyData.canLayAll0, PyData.depthAll]
  | d :: ds, h => by
    obtain ⟨h1, h2⟩ := lay_all fun d' hd => h d' (List.mem_cons_of_mem _ hd)
    obtain ⟨h3, h4⟩ := h d List.mem_cons_self
    rw [pyL, PyData.canLayAll0, PyData.depthAll, h3, h1]
    exact ⟨rfl, by omega⟩
theorem lay_lst {b : Nat} {k : LK} {ds : List D} (h : ∀ d ∈ ds, d.py.canLay0 = true ∧ d.py.depth ≤ b) : (D.lst k ds).py.canLay0 = true ∧ (D.lst k ds).py.depth ≤ b + 1 := by
  obtain ⟨h1, h2⟩ := lay_all h
  rw [D.py, PyData.canLay0, PyData.depth]
  exact ⟨h1, by omega⟩
theorem real_eq_lay {b : Nat} {d : D} (h : d.py.canLay0 = true ∧ d.py.depth ≤ b) (hb : b ≤ 64) : real.eq d = true := by
  show SeqAt.shaped d.py = true
  unfold SeqAt.shaped
  rw [h.1, Bool.true_and]
  exact decide_eq_true (by omega)
theorem lay_ms (k : LK) (ms : List TvM) : (D.lst k (ms.map encMk)).py.canLay0 = true ∧ (D.lst k (ms.map encMk)).py.depth ≤ 11 := lay_lst fun d hd => by
  obtain ⟨q, _, rfl⟩ := List.mem_map.mp hd
  exact flat_encMk q
theorem lay_qs (k : LK) (qs : List Rat) : (D.lst k (qs.map enc)).py.canLay0 = true ∧ (D.lst k (qs.map enc)).py.depth ≤ 11 := lay_lst fun d hd => by
  obtain ⟨q, _, rfl⟩ := List.mem_map.mp hd
  exact flat_enc q
theorem abs_divInt (p : Rat) : p.abs = Rat.divInt (if p.num < 0 then -p.num else p.num) p.den := by
  have h1 := abs_enc p
  unfold enc at h1
  injection h1 with h1
  injection h1 with h1 h2
  injection h1 with h1
  injection h2 with h2
  injection h2 with h2
  rw [← h1, ← h2]
  exact rat_eq _
theorem int_divInt (w : Int) : (w : Rat) = Rat.divInt w 1 := by
  have := rat_eq (w : Rat)
  rw [Rat.num_intCast, Rat.den_intCast] at this
  exact this
def missQ (ms : List TvM) (hs : List Rat) : List Rat := (ms.zip hs).map fun p => p.1.h - p.2
def weiQ (ms : List TvM) (qs : List Rat) : List Rat := (ms.zip qs).map fun p => (p.1.w : Rat) * p.2
def farQ (ms : List TvM) (hs : List Rat) : Rat := maxQ ((missQ ms hs).map Rat.abs)
def sumOf (ms : List TvM) (hs : List Rat) : Rat := sumQ (weiQ ms ((missQ ms hs).map Rat.abs))
def sqOf (ms : List TvM) (hs : List Rat) : Rat := sumQ (((weiQ ms (missQ ms hs)).zip (missQ ms hs)).map fun p => p.1 * p.2)
/-- sizes of marks -/
def Mb (n : Nat) (m : TvM) : Prop := Rb n m.p ∧ Rb n m.h ∧ Bd n m.w
theorem missQ_bd {n k : Nat} {ms : List TvM} {hs : List Rat} (hm : ∀ m ∈ ms, Mb n m) (hh : ∀ q ∈ hs, Rb k q) : ∀ q ∈ missQ ms hs, Rb (n + k + 1) q := fun q hq => by
  obtain ⟨p, hp, rfl⟩ := List.mem_map.mp hq
  have h1 := List.of_mem_zip (a := p.1) (b := p.2) hp
  exact (hm _ h1.1).2.1.sub (hh _ h1.2)
theorem weiQ_bd {n k : Nat} (hn : 0 < n) {ms : List TvM} {hs : List Rat} (hm : ∀ m ∈ ms, Mb n m) (hh : ∀ q ∈ hs, Rb k q) : ∀ q ∈ weiQ ms hs, Rb (n + k) q := fun q hq => by
  obtain ⟨p, hp, rfl⟩ := List.mem_map.mp hq
  have h1 := List.of_mem_zip (a := p.1) (b := p.2) hp
  exact (Rb.int (hm _ h1.1).2.2 hn).mul (hh _ h1.2)
section
variable {exc : Xs} {glb : Str → Option D} {T : List Fn} {n : Nat}
theorem run_misses_of (hc : Has T f_common_divisor) (hf : Has T f_fraction) (hmi : Has T f_minus) (h : Has T f_misses_of) {B K : Nat} {ms : List TvM} {hs : List Rat} (hm : ∀ m ∈ ms, Mb B m) (hh : ∀ q ∈ hs, Rb K q) (hs2 : B + K ≤ 2 ^ 26) (hl : ms.length < 2 ^ 24) :
    run real exc glb T (n + 4) "misses_of" [.lst .sh (ms.map encMk), .lst .sh (hs.map enc)] = some (.ok (.lst .ow ((missQ ms hs).map enc))) := by
  rw [run_eq (f := "misses_of") (d := f_misses_of) h rfl]
  have hcm := comp_all (C := ctx real exc glb T (n + 3)) (elt := .call "minus" (.cons (.ix (.bo 2) (.lit (.int 1))) (.cons (.bo 3) .nil))) (tg := .many [2, 3]) (cond := .no) (own := [2, 3]) (fun p : TvM × Rat => D.tup [encMk p.1, enc p.2]) (fun p => some (enc (p.1.h - p.2))) [.lst .sh (ms.map encMk), .lst .sh (hs.map enc), .hole, .hole] (ms.zip hs) (fun p hp => by
    refine ⟨[.lst .sh (ms.map encMk), .lst .sh (hs.map enc), encMk p.1, enc p.2], fun env henv => ?_, rfl⟩
    have h1 := List.of_mem_zip (a := p.1) (b := p.2) hp
    have e := run_minus (exc := exc) (glb := glb) (n := n) hc hf hmi (hm _ h1.1).2.1 (hh _ h1.2) hs2
    rw [lcF_at, henv]
    generalize hs.map enc = l at *
    generalize ms.map encMk = l2 at *
    unfold encMk
    unfold enc at *
    simp only [evE_mv, evE_fr, evE_bo, evE_lit, evE_glb, evE_shr, evE_bin, evE_neg, evE_not, evE_and, evE_or, evE_cmp, evE_ix, evE_pth, evE_sl, evE_tup, evE_lst, evE_call, evE_bi, evE_isi, evE_pop, evE_lrv, evE_lrg, evEs_nil, evEs_cons, evEo_no, evEo_so, evC_no, evC_so, evIt_list, evIt_rg1, evIt_rg2, evIt_rg3, evIt_rev, evIt_zip, evIt_enum, evIt_str, evIt_brw, evIt_tupi, evS_asg, evS_unp, evS_par, evS_swp, evS_set1, evS_aug, evS_mut0, evS_ex, evS_ifs, evS_scn, evS_ret, evS_rse, evS_try1, evS_try2, evS_brk, evS_cnt, evS_pas, evS_kil, evSs_nil, evSs_cons, sq_nx, sq_rt, sq_bk, sq_ct, sq_ex, evS_whl, evS_frs, evE_lc, bnd, sbnd, obnd, raw, res, resL, rawL, valsL, anyBor, opBin, opCmp, opBi, biAbs, biInt, biStr, biLen, biList, biSum, biMax, biMin, biAll, Itr.bk, putBack, itemsOf, hkGo, boolsOf, opNeg, opNot, ixD, slD, litD, atom, isD, D.share, shareL, D.isHole, D.whole, wholeL, D.noOw, noOwL, D.noSh, noShL, stIx, owAt, asB, setTg, putE, mutD, mtAppend, mtExtend, mtPop, mtClear, mtInsert, kill, List.foldl_cons, List.foldl_nil, List.getElem?_cons_zero, List.getElem?_cons_succ, List.getElem?_nil, List.set_cons_zero, List.set_cons_succ, List.length_cons, List.length_nil, Bool.and_true, Bool.true_and, Bool.and_false, Bool.false_and, Bool.not_true, Bool.not_false, cond_true, cond_false, if_true, if_false, ite_true, ite_false, reduceIte, reduceCtorEq, Bool.false_eq_true, startE, List.replicate, List.append_eq, List.nil_append, List.cons_append, List.append_nil, fin, TV.atI0, TV.atI1, Option.bind_some, Option.map_some, Bool.and_self, Bool.or_self, Nat.reduceSub, Nat.reduceAdd, Nat.reduceEqDiff, Bool.not_eq_true, Bool.and_eq_true, decide_true, decide_false, real_eq_int, real_eq_bl, real_eq_non, real_eq_enc, real_eq_enc2, eqD_int, eqD_bl, eqD_pair, Int.reduceEq, Int.reduceToNat, Int.reduceLE, Int.reduceLT, nab10, nab2, castn0, castn1, castn2, castn3, castn4, castn5, Nat.reduceLT, and_self, and_true, true_and, and_false, false_and, if_pos trivial, not_true_eq_false, not_false_eq_true, Bool.or_true, Bool.or_false, Bool.true_or, Bool.false_or, e]) [.lst .sh (ms.map encMk), .lst .sh (hs.map enc), .hole, .hole] rfl
  rw [filterMap_some (fun p : TvM × Rat => enc (p.1.h - p.2)), ← zip2_map] at hcm
  have er : (ms.zip hs).map (fun p : TvM × Rat => enc (p.1.h - p.2)) = (missQ ms hs).map enc := by unfold missQ; rw [List.map_map]; rfl
  rw [er] at hcm
  have hlen : real.len ((zip2D (ms.map encMk) (hs.map enc)).length) = true := real_len (by rw [zip2_map, List.length_map, List.length_zip]; omega)
  have ho := noOwL_encMk ms
  have ho2 := noOwL_encs hs
  show fin (evSs (ctx real exc glb T (n + 3)) c_misses_of [.lst .sh (ms.map encMk), .lst .sh (hs.map enc), .hole, .hole]) = _
  generalize hs.map enc = l at *
  generalize ms.map encMk = l2 at *
  simp only [c_misses_of, evE_mv, evE_fr, evE_bo, evE_lit, evE_glb, evE_shr, evE_bin, evE_neg, evE_not, evE_and, evE_or, evE_cmp, evE_ix, evE_pth, evE_sl, evE_tup, evE_lst, evE_call, evE_bi, evE_isi, evE_pop, evE_lrv, evE_lrg, evEs_nil, evEs_cons, evEo_no, evEo_so, evC_no, evC_so, evIt_list, evIt_rg1, evIt_rg2, evIt_rg3, evIt_rev, evIt_zip, evIt_enum, evIt_str, evIt_brw, evIt_tupi, evS_asg, evS_unp, evS_par, evS_swp, evS_set1, evS_aug, evS_mut0, evS_ex, evS_ifs, evS_scn, evS_ret, evS_rse, evS_try1, evS_try2, evS_brk, evS_cnt, evS_pas, evS_kil, evSs_nil, evSs_cons, sq_nx, sq_rt, sq_bk, sq_ct, sq_ex, evS_whl, evS_frs, evE_lc, bnd, sbnd, obnd, raw, res, resL, rawL, valsL, anyBor, opBin, opCmp, opBi, biAbs, biInt, biStr, biLen, biList, biSum, biMax, biMin, biAll, Itr.bk, putBack, itemsOf, hkGo, boolsOf, opNeg, opNot, ixD, slD, litD, atom, isD, D.share, shareL, D.isHole, D.whole, wholeL, D.noOw, noOwL, D.noSh, noShL, stIx, owAt, asB, setTg, putE, mutD, mtAppend, mtExtend, mtPop, mtClear, mtInsert, kill, List.foldl_cons, List.foldl_nil, List.getElem?_cons_zero, List.getElem?_cons_succ, List.getElem?_nil, List.set_cons_zero, List.set_cons_succ, List.length_cons, List.length_nil, Bool.and_true, Bool.true_and, Bool.and_false, Bool.false_and, Bool.not_true, Bool.not_false, cond_true, cond_false, if_true, if_false, ite_true, ite_false, reduceIte, reduceCtorEq, Bool.false_eq_true, startE, List.replicate, List.append_eq, List.nil_append, List.cons_append, List.append_nil, fin, TV.atI0, TV.atI1, Option.bind_some, Option.map_some, Bool.and_self, Bool.or_self, Nat.reduceSub, Nat.reduceAdd, Nat.reduceEqDiff, Bool.not_eq_true, Bool.and_eq_true, decide_true, decide_false, real_eq_int, real_eq_bl, real_eq_non, real_eq_enc, real_eq_enc2, eqD_int, eqD_bl, eqD_pair, Int.reduceEq, Int.reduceToNat, Int.reduceLE, Int.reduceLT, nab10, nab2, castn0, castn1, castn2, castn3, castn4, castn5, Nat.reduceLT, and_self, and_true, true_and, and_false, false_and, if_pos trivial, not_true_eq_false, not_false_eq_true, Bool.or_true, Bool.or_false, Bool.true_or, Bool.false_or, ho, ho2, hlen, hcm]
theorem run_weighed (hc : Has T f_common_divisor) (hf : Has T f_fraction) (hpr : Has T f_product) (h : Has T f_weighed) {B K : Nat} {ms : List TvM} {hs : List Rat} (hB : 0 < B) (hm : ∀ m ∈ ms, Mb B m) (hh : ∀ q ∈ hs, Rb K q) (hs2 : B + K ≤ 2 ^ 26) (hl : ms.length < 2 ^ 24) :
    run real exc glb T (n + 4) "weighed" [.lst .sh (ms.map encMk), .lst .sh (hs.map enc)] = some (.ok (.lst .ow ((weiQ ms hs).map enc))) := by
  rw [run_eq (f := "weighed") (d := f_weighed) h rfl]
  have hcm := comp_all (C := ctx real exc glb T (n + 3)) (elt := .call "product" (.cons (.tup (.cons (.ix (.bo 2) (.lit (.int 2))) (.cons (.lit (.int 1)) .nil))) (.cons (.bo 3) .nil))) (tg := .many [2, 3]) (cond := .no) (own := [2, 3]) (fun p : TvM × Rat => D.tup [encMk p.1, enc p.2]) (fun p => some (enc ((p.1.w : Rat) * p.2))) [.lst .sh (ms.map encMk), .lst .sh (hs.map enc), .hole, .hole] (ms.zip hs) (fun p hp => by
    refine ⟨[.lst .sh (ms.map encMk), .lst .sh (hs.map enc), encMk p.1, enc p.2], fun env henv => ?_, rfl⟩
    have h1 := List.of_mem_zip (a := p.1) (b := p.2) hp
    have e := run_product (exc := exc) (glb := glb) (n := n) hc hf hpr (Rb.int (hm _ h1.1).2.2 hB) (hh _ h1.2) hs2
    rw [enc_int] at e
    have a2 : atI [enc p.1.p, enc p.1.h, .int p.1.w] 2 = some (.int p.1.w) := atI_nat [enc p.1.p, enc p.1.h, .int p.1.w] 2
    rw [lcF_at, henv]
    generalize hs.map enc = l at *
    generalize ms.map encMk = l2 at *
    unfold encMk
    unfold enc at *
    simp only [evE_mv, evE_fr, evE_bo, evE_lit, evE_glb, evE_shr, evE_bin, evE_neg, evE_not, evE_and, evE_or, evE_cmp, evE_ix, evE_pth, evE_sl, evE_tup, evE_lst, evE_call, evE_bi, evE_isi, evE_pop, evE_lrv, evE_lrg, evEs_nil, evEs_cons, evEo_no, evEo_so, evC_no, evC_so, evIt_list, evIt_rg1, evIt_rg2, evIt_rg3, evIt_rev, evIt_zip, evIt_enum, evIt_str, evIt_brw, evIt_tupi, evS_asg, evS_unp, evS_par, evS_swp, evS_set1, evS_aug, evS_mut0, evS_ex, evS_ifs, evS_scn, evS_ret, evS_rse, evS_try1, evS_try2, evS_brk, evS_cnt, evS_pas, evS_kil, evSs_nil, evSs_cons, sq_nx, sq_rt, sq_bk, sq_ct, sq_ex, evS_whl, evS_frs, evE_lc, bnd, sbnd, obnd, raw, res, resL, rawL, valsL, anyBor, opBin, opCmp, opBi, biAbs, biInt, biStr, biLen, biList, biSum, biMax, biMin, biAll, Itr.bk, putBack, itemsOf, hkGo, boolsOf, opNeg, opNot, ixD, slD, litD, atom, isD, D.share, shareL, D.isHole, D.whole, wholeL, D.noOw, noOwL, D.noSh, noShL, stIx, owAt, asB, setTg, putE, mutD, mtAppend, mtExtend, mtPop, mtClear, mtInsert, kill, List.foldl_cons, List.foldl_nil, List.getElem?_cons_zero, List.getElem?_cons_succ, List.getElem?_nil, List.set_cons_zero, List.set_cons_succ, List.length_cons, List.length_nil, Bool.and_true, Bool.true_and, Bool.and_false, Bool.false_and, Bool.not_true, Bool.not_false, cond_true, cond_false, if_true, if_false, ite_true, ite_false, reduceIte, reduceCtorEq, Bool.false_eq_true, startE, List.replicate, List.append_eq, List.nil_append, List.cons_append, List.append_nil, fin, TV.atI0, TV.atI1, Option.bind_some, Option.map_some, Bool.and_self, Bool.or_self, Nat.reduceSub, Nat.reduceAdd, Nat.reduceEqDiff, Bool.not_eq_true, Bool.and_eq_true, decide_true, decide_false, real_eq_int, real_eq_bl, real_eq_non, real_eq_enc, real_eq_enc2, eqD_int, eqD_bl, eqD_pair, Int.reduceEq, Int.reduceToNat, Int.reduceLE, Int.reduceLT, nab10, nab2, castn0, castn1, castn2, castn3, castn4, castn5, Nat.reduceLT, and_self, and_true, true_and, and_false, false_and, if_pos trivial, not_true_eq_false, not_false_eq_true, Bool.or_true, Bool.or_false, Bool.true_or, Bool.false_or, e, a2]) [.lst .sh (ms.map encMk), .lst .sh (hs.map enc), .hole, .hole] rfl
  rw [filterMap_some (fun p : TvM × Rat => enc ((p.1.w : Rat) * p.2)), ← zip2_map] at hcm
  have er : (ms.zip hs).map (fun p : TvM × Rat => enc ((p.1.w : Rat) * p.2)) = (weiQ ms hs).map enc := by unfold weiQ; rw [List.map_map]; rfl
  rw [er] at hcm
  have hlen : real.len ((zip2D (ms.map encMk) (hs.map enc)).length) = true := real_len (by rw [zip2_map, List.length_map, List.length_zip]; omega)
  have ho := noOwL_encMk ms
  have ho2 := noOwL_encs hs
  show fin (evSs (ctx real exc glb T (n + 3)) c_weighed [.lst .sh (ms.map encMk), .lst .sh (hs.map enc), .hole, .hole]) = _
  generalize hs.map enc = l at *
  generalize ms.map encMk = l2 at *
  simp only [c_weighed, evE_mv, evE_fr, evE_bo, evE_lit, evE_glb, evE_shr, evE_bin, evE_neg, evE_not, evE_and, evE_or, evE_cmp, evE_ix, evE_pth, evE_sl, evE_tup, evE_lst, evE_call, evE_bi, evE_isi, evE_pop, evE_lrv, evE_lrg, evEs_nil, evEs_cons, evEo_no, evEo_so, evC_no, evC_so, evIt_list, evIt_rg1, evIt_rg2, evIt_rg3, evIt_rev, evIt_zip, evIt_enum, evIt_str, evIt_brw, evIt_tupi, evS_asg, evS_unp, evS_par, evS_swp, evS_set1, evS_aug, evS_mut0, evS_ex, evS_ifs, evS_scn, evS_ret, evS_rse, evS_try1, evS_try2, evS_brk, evS_cnt, evS_pas, evS_kil, evSs_nil, evSs_cons, sq_nx, sq_rt, sq_bk, sq_ct, sq_ex, evS_whl, evS_frs, evE_lc, bnd, sbnd, obnd, raw, res, resL, rawL, valsL, anyBor, opBin, opCmp, opBi, biAbs, biInt, biStr, biLen, biList, biSum, biMax, biMin, biAll, Itr.bk, putBack, itemsOf, hkGo, boolsOf, opNeg, opNot, ixD, slD, litD, atom, isD, D.share, shareL, D.isHole, D.whole, wholeL, D.noOw, noOwL, D.noSh, noShL, stIx, owAt, asB, setTg, putE, mutD, mtAppend, mtExtend, mtPop, mtClear, mtInsert, kill, List.foldl_cons, List.foldl_nil, List.getElem?_cons_zero, List.getElem?_cons_succ, List.getElem?_nil, List.set_cons_zero, List.set_cons_succ, List.length_cons, List.length_nil, Bool.and_true, Bool.true_and, Bool.and_false, Bool.false_and, Bool.not_true, Bool.not_false, cond_true, cond_false, if_true, if_false, ite_true, ite_false, reduceIte, reduceCtorEq, Bool.false_eq_true, startE, List.replicate, List.append_eq, List.nil_append, List.cons_append, List.append_nil, fin, TV.atI0, TV.atI1, Option.bind_some, Option.map_some, Bool.and_self, Bool.or_self, Nat.reduceSub, Nat.reduceAdd, Nat.reduceEqDiff, Bool.not_eq_true, Bool.and_eq_true, decide_true, decide_false, real_eq_int, real_eq_bl, real_eq_non, real_eq_enc, real_eq_enc2, eqD_int, eqD_bl, eqD_pair, Int.reduceEq, Int.reduceToNat, Int.reduceLE, Int.reduceLT, nab10, nab2, castn0, castn1, castn2, castn3, castn4, castn5, Nat.reduceLT, and_self, and_true, true_and, and_false, false_and, if_pos trivial, not_true_eq_false, not_false_eq_true, Bool.or_true, Bool.or_false, Bool.true_or, Bool.false_or, ho, ho2, hlen, hcm]
theorem str_eq (a b : Str) : eqD (.str a) (.str b) = decide (a = b) := by
  unfold eqD
  rw [D.py, D.py, PyData.eqv]; rfl
theorem run_need_kind (h : Has T f_need_kind) (k : Str) (hk : k = "far" ∨ k = "sum" ∨ k = "square") : run real exc glb T (n + 1) "need_kind" [.str k] = some (.ok .non) := by
  rw [run_eq (f := "need_kind") (d := f_need_kind) h rfl]
  have q1 : real.eq (.str k) = true := by rcases hk with rfl | rfl | rfl <;> decide +kernel
  have q2 : real.eq (.lst .sh [.str "far", .str "sum", .str "square"]) = true := by decide +kernel
  have q3 : ([D.str "far", .str "sum", .str "square"].any fun z => eqD z (.str k)) = true := by
    rw [List.any_cons, List.any_cons, List.any_cons, List.any_nil, str_eq, str_eq, str_eq]
    rcases hk with rfl | rfl | rfl <;> decide +kernel
  have q4 : ([D.str "far", .str "sum", .str "square"].all atom) = true := by decide
  simp only [c_need_kind, f_need_kind, evE_mv, evE_fr, evE_bo, evE_lit, evE_glb, evE_shr, evE_bin, evE_neg, evE_not, evE_and, evE_or, evE_cmp, evE_ix, evE_pth, evE_sl, evE_tup, evE_lst, evE_call, evE_bi, evE_isi, evE_pop, evE_lrv, evE_lrg, evEs_nil, evEs_cons, evEo_no, evEo_so, evC_no, evC_so, evIt_list, evIt_rg1, evIt_rg2, evIt_rg3, evIt_rev, evIt_zip, evIt_enum, evIt_str, evIt_brw, evIt_tupi, evS_asg, evS_unp, evS_par, evS_swp, evS_set1, evS_aug, evS_mut0, evS_ex, evS_ifs, evS_scn, evS_ret, evS_rse, evS_try1, evS_try2, evS_brk, evS_cnt, evS_pas, evS_kil, evSs_nil, evSs_cons, sq_nx, sq_rt, sq_bk, sq_ct, sq_ex, evS_whl, evS_frs, evE_lc, bnd, sbnd, obnd, raw, res, resL, rawL, valsL, anyBor, opBin, opCmp, opBi, biAbs, biInt, biStr, biLen, biList, biSum, biMax, biMin, biAll, Itr.bk, putBack, itemsOf, hkGo, boolsOf, opNeg, opNot, ixD, slD, litD, atom, isD, D.share, shareL, D.isHole, D.whole, wholeL, D.noOw, noOwL, D.noSh, noShL, stIx, owAt, asB, setTg, putE, mutD, mtAppend, mtExtend, mtPop, mtClear, mtInsert, kill, List.foldl_cons, List.foldl_nil, List.getElem?_cons_zero, List.getElem?_cons_succ, List.getElem?_nil, List.set_cons_zero, List.set_cons_succ, List.length_cons, List.length_nil, Bool.and_true, Bool.true_and, Bool.and_false, Bool.false_and, Bool.not_true, Bool.not_false, cond_true, cond_false, if_true, if_false, ite_true, ite_false, reduceIte, reduceCtorEq, Bool.false_eq_true, startE, List.replicate, List.append_eq, List.nil_append, List.cons_append, List.append_nil, fin, TV.atI0, TV.atI1, Option.bind_some, Option.map_some, Bool.and_self, Bool.or_self, Nat.reduceSub, Nat.reduceAdd, Nat.reduceEqDiff, Bool.not_eq_true, Bool.and_eq_true, decide_true, decide_false, real_eq_int, real_eq_bl, real_eq_non, real_eq_enc, real_eq_enc2, eqD_int, eqD_bl, eqD_pair, Int.reduceEq, Int.reduceToNat, Int.reduceLE, Int.reduceLT, nab10, nab2, castn0, castn1, castn2, castn3, castn4, castn5, Nat.reduceLT, and_self, and_true, true_and, and_false, false_and, if_pos trivial, not_true_eq_false, not_false_eq_true, Bool.or_true, Bool.or_false, Bool.true_or, Bool.false_or, q1, q2, q3, q4]
variable (hc : Has T f_common_divisor) (hf : Has T f_fraction) (hpl : Has T f_plus) (hmi : Has T f_minus) (hpr : Has T f_product) (hle : Has T f_is_less) (hsz : Has T f_size_of) (hto : Has T f_total_of) (hgr : Has T f_greatest_of) (hmo : Has T f_misses_of) (hnk : Has T f_need_kind) (hwe : Has T f_weighed) (h : Has T f_measured)
include hc hf hpl hmi hpr hle hsz hto hgr hmo hnk hwe h
theorem measured_head {B K : Nat} {ms : List TvM} {hs : List Rat} (hm : ∀ m ∈ ms, Mb B m) (hh : ∀ q ∈ hs, Rb K q) (hs2 : B + K ≤ 2 ^ 18) (hl : ms.length ≤ 100) (k : Str) (hk : k = "far" ∨ k = "sum" ∨ k = "square") :
    evSs (ctx real exc glb T (n + 9)) (takeS 3 c_measured) [.str k, .lst .sh (ms.map encMk), .lst .sh (hs.map enc), .hole, .hole, .hole, .hole] = some (.nx [.str k, .lst .sh (ms.map encMk), .lst .sh (hs.map enc), .lst .sh ((missQ ms hs).map enc), .lst .ow (((missQ ms hs).map Rat.abs).map enc), .hole, .hole]) := by
  have e1 := run_need_kind (exc := exc) (glb := glb) (n := n + 8) hnk k hk
  have e2 := run_misses_of (exc := exc) (glb := glb) (n := n + 5) hc hf hmi hmo hm hh (by omega) (by omega)
  have hcm := comp_all (C := ctx real exc glb T (n + 9)) (elt := .call "size_of" (.cons (.bo 5) .nil)) (tg := .one 5) (cond := .no) (own := [5]) enc (fun q => some (enc q.abs)) [.str k, .lst .sh (ms.map encMk), .lst .sh (hs.map enc), .lst .sh ((missQ ms hs).map enc), .hole, .hole, .hole] (missQ ms hs) (fun q hq => by
    refine ⟨[.str k, .lst .sh (ms.map encMk), .lst .sh (hs.map enc), .lst .sh ((missQ ms hs).map enc), .hole, enc q, .hole], fun env henv => ?_, rfl⟩
    have e := run_size_of (exc := exc) (glb := glb) (n := n + 8) hsz q
    rw [lcF_at, henv]
    generalize hs.map enc = l at *
    generalize ms.map encMk = l2 at *
    generalize (missQ ms hs).map enc = l3 at *
    unfold enc at *
    simp only [evE_mv, evE_fr, evE_bo, evE_lit, evE_glb, evE_shr, evE_bin, evE_neg, evE_not, evE_and, evE_or, evE_cmp, evE_ix, evE_pth, evE_sl, evE_tup, evE_lst, evE_call, evE_bi, evE_isi, evE_pop, evE_lrv, evE_lrg, evEs_nil, evEs_cons, evEo_no, evEo_so, evC_no, evC_so, evIt_list, evIt_rg1, evIt_rg2, evIt_rg3, evIt_rev, evIt_zip, evIt_enum, evIt_str, evIt_brw, evIt_tupi, evS_asg, evS_unp, evS_par, evS_swp, evS_set1, evS_aug, evS_mut0, evS_ex, evS_ifs, evS_scn, evS_ret, evS_rse, evS_try1, evS_try2, evS_brk, evS_cnt, evS_pas, evS_kil, evSs_nil, evSs_cons, sq_nx, sq_rt, sq_bk, sq_ct, sq_ex, evS_whl, evS_frs, evE_lc, bnd, sbnd, obnd, raw, res, resL, rawL, valsL, anyBor, opBin, opCmp, opBi, biAbs, biInt, biStr, biLen, biList, biSum, biMax, biMin, biAll, Itr.bk, putBack, itemsOf, hkGo, boolsOf, opNeg, opNot, ixD, slD, litD, atom, isD, D.share, shareL, D.isHole, D.whole, wholeL, D.noOw, noOwL, D.noSh, noShL, stIx, owAt, asB, setTg, putE, mutD, mtAppend, mtExtend, mtPop, mtClear, mtInsert, kill, List.foldl_cons, List.foldl_nil, List.getElem?_cons_zero, List.getElem?_cons_succ, List.getElem?_nil, List.set_cons_zero, List.set_cons_succ, List.length_cons, List.length_nil, Bool.and_true, Bool.true_and, Bool.and_false, Bool.false_and, Bool.not_true, Bool.not_false, cond_true, cond_false, if_true, if_false, ite_true, ite_false, reduceIte, reduceCtorEq, Bool.false_eq_true, startE, List.replicate, List.append_eq, List.nil_append, List.cons_append, List.append_nil, fin, TV.atI0, TV.atI1, Option.bind_some, Option.map_some, Bool.and_self, Bool.or_self, Nat.reduceSub, Nat.reduceAdd, Nat.reduceEqDiff, Bool.not_eq_true, Bool.and_eq_true, decide_true, decide_false, real_eq_int, real_eq_bl, real_eq_non, real_eq_enc, real_eq_enc2, eqD_int, eqD_bl, eqD_pair, Int.reduceEq, Int.reduceToNat, Int.reduceLE, Int.reduceLT, nab10, nab2, castn0, castn1, castn2, castn3, castn4, castn5, Nat.reduceLT, and_self, and_true, true_and, and_false, false_and, if_pos trivial, not_true_eq_false, not_false_eq_true, Bool.or_true, Bool.or_false, Bool.true_or, Bool.false_or, e]) [.str k, .lst .sh (ms.map encMk), .lst .sh (hs.map enc), .lst .sh ((missQ ms hs).map enc), .hole, .hole, .hole] rfl
  rw [filterMap_some (fun q : Rat => enc q.abs)] at hcm
  have er : (missQ ms hs).map (fun q : Rat => enc q.abs) = ((missQ ms hs).map Rat.abs).map enc := by rw [List.map_map]; rfl
  rw [er] at hcm
  have hlm : (missQ ms hs).length ≤ 100 := by unfold missQ; rw [List.length_map, List.length_zip]; omega
  have hlen : real.len (((missQ ms hs).map enc).length) = true := real_len (by rw [List.length_map]; omega)
  have ho := noOwL_encMk ms
  have ho2 := noOwL_encs hs
  have ho3 := noOwL_encs (missQ ms hs)
  have s1 := shareL_encMk ms
  have s2 := shareL_encs hs
  have s3 := shareL_encs (missQ ms hs)
  generalize hs.map enc = l at *
  generalize ms.map encMk = l2 at *
  generalize (missQ ms hs).map enc = l3 at *
  generalize ((missQ ms hs).map Rat.abs).map enc = l4 at *
  simp only [c_measured, takeS, evE_mv, evE_fr, evE_bo, evE_lit, evE_glb, evE_shr, evE_bin, evE_neg, evE_not, evE_and, evE_or, evE_cmp, evE_ix, evE_pth, evE_sl, evE_tup, evE_lst, evE_call, evE_bi, evE_isi, evE_pop, evE_lrv, evE_lrg, evEs_nil, evEs_cons, evEo_no, evEo_so, evC_no, evC_so, evIt_list, evIt_rg1, evIt_rg2, evIt_rg3, evIt_rev, evIt_zip, evIt_enum, evIt_str, evIt_brw, evIt_tupi, evS_asg, evS_unp, evS_par, evS_swp, evS_set1, evS_aug, evS_mut0, evS_ex, evS_ifs, evS_scn, evS_ret, evS_rse, evS_try1, evS_try2, evS_brk, evS_cnt, evS_pas, evS_kil, evSs_nil, evSs_cons, sq_nx, sq_rt, sq_bk, sq_ct, sq_ex, evS_whl, evS_frs, evE_lc, bnd, sbnd, obnd, raw, res, resL, rawL, valsL, anyBor, opBin, opCmp, opBi, biAbs, biInt, biStr, biLen, biList, biSum, biMax, biMin, biAll, Itr.bk, putBack, itemsOf, hkGo, boolsOf, opNeg, opNot, ixD, slD, litD, atom, isD, D.share, shareL, D.isHole, D.whole, wholeL, D.noOw, noOwL, D.noSh, noShL, stIx, owAt, asB, setTg, putE, mutD, mtAppend, mtExtend, mtPop, mtClear, mtInsert, kill, List.foldl_cons, List.foldl_nil, List.getElem?_cons_zero, List.getElem?_cons_succ, List.getElem?_nil, List.set_cons_zero, List.set_cons_succ, List.length_cons, List.length_nil, Bool.and_true, Bool.true_and, Bool.and_false, Bool.false_and, Bool.not_true, Bool.not_false, cond_true, cond_false, if_true, if_false, ite_true, ite_false, reduceIte, reduceCtorEq, Bool.false_eq_true, startE, List.replicate, List.append_eq, List.nil_append, List.cons_append, List.append_nil, fin, TV.atI0, TV.atI1, Option.bind_some, Option.map_some, Bool.and_self, Bool.or_self, Nat.reduceSub, Nat.reduceAdd, Nat.reduceEqDiff, Bool.not_eq_true, Bool.and_eq_true, decide_true, decide_false, real_eq_int, real_eq_bl, real_eq_non, real_eq_enc, real_eq_enc2, eqD_int, eqD_bl, eqD_pair, Int.reduceEq, Int.reduceToNat, Int.reduceLE, Int.reduceLT, nab10, nab2, castn0, castn1, castn2, castn3, castn4, castn5, Nat.reduceLT, and_self, and_true, true_and, and_false, false_and, if_pos trivial, not_true_eq_false, not_false_eq_true, Bool.or_true, Bool.or_false, Bool.true_or, Bool.false_or, e1, e2, hcm, hlen, ho, ho2, ho3, s1, s2, s3]
theorem run_far {B K : Nat} {ms : List TvM} {hs : List Rat} (hm : ∀ m ∈ ms, Mb B m) (hh : ∀ q ∈ hs, Rb K q) (hs2 : B + K ≤ 2 ^ 18) (hl : ms.length ≤ 100) (hne : missQ ms hs ≠ []) :
    run real exc glb T (n + 10) "measured" [.str "far", .lst .sh (ms.map encMk), .lst .sh (hs.map enc)] = some (.ok (enc (farQ ms hs))) := by
  rw [run_eq (f := "measured") (d := f_measured) h rfl]
  show fin (evSs (ctx real exc glb T (n + 9)) c_measured [.str "far", .lst .sh (ms.map encMk), .lst .sh (hs.map enc), .hole, .hole, .hole, .hole]) = _
  rw [evSs_split _ 3, measured_head hc hf hpl hmi hpr hle hsz hto hgr hmo hnk hwe h hm hh hs2 hl "far" (.inl rfl), sq_nx]
  have hb : ∀ q ∈ (missQ ms hs).map Rat.abs, Rb (B + K + 1) q := fun q hq => by
    obtain ⟨p, hp, rfl⟩ := List.mem_map.mp hq
    exact (missQ_bd hm hh p hp).abs
  have e := run_greatest_of (exc := exc) (glb := glb) (n := n + 7) hle hgr hb (by omega)
  rw [if_neg (by simpa using hne)] at e
  have q1 : eqD (.str "far") (.str "far") = true := eqD_refl _
  have q2 : real.eq (.str "far") = true := by decide +kernel
  have s3 := shareL_encs ((missQ ms hs).map Rat.abs)
  unfold farQ
  generalize hs.map enc = l at *
  generalize ms.map encMk = l2 at *
  generalize (missQ ms hs).map enc = l3 at *
  generalize ((missQ ms hs).map Rat.abs).map enc = l4 at *
  unfold enc at *
  simp only [c_measured, dropS, evE_mv, evE_fr, evE_bo, evE_lit, evE_glb, evE_shr, evE_bin, evE_neg, evE_not, evE_and, evE_or, evE_cmp, evE_ix, evE_pth, evE_sl, evE_tup, evE_lst, evE_call, evE_bi, evE_isi, evE_pop, evE_lrv, evE_lrg, evEs_nil, evEs_cons, evEo_no, evEo_so, evC_no, evC_so, evIt_list, evIt_rg1, evIt_rg2, evIt_rg3, evIt_rev, evIt_zip, evIt_enum, evIt_str, evIt_brw, evIt_tupi, evS_asg, evS_unp, evS_par, evS_swp, evS_set1, evS_aug, evS_mut0, evS_ex, evS_ifs, evS_scn, evS_ret, evS_rse, evS_try1, evS_try2, evS_brk, evS_cnt, evS_pas, evS_kil, evSs_nil, evSs_cons, sq_nx, sq_rt, sq_bk, sq_ct, sq_ex, evS_whl, evS_frs, evE_lc, bnd, sbnd, obnd, raw, res, resL, rawL, valsL, anyBor, opBin, opCmp, opBi, biAbs, biInt, biStr, biLen, biList, biSum, biMax, biMin, biAll, Itr.bk, putBack, itemsOf, hkGo, boolsOf, opNeg, opNot, ixD, slD, litD, atom, isD, D.share, shareL, D.isHole, D.whole, wholeL, D.noOw, noOwL, D.noSh, noShL, stIx, owAt, asB, setTg, putE, mutD, mtAppend, mtExtend, mtPop, mtClear, mtInsert, kill, List.foldl_cons, List.foldl_nil, List.getElem?_cons_zero, List.getElem?_cons_succ, List.getElem?_nil, List.set_cons_zero, List.set_cons_succ, List.length_cons, List.length_nil, Bool.and_true, Bool.true_and, Bool.and_false, Bool.false_and, Bool.not_true, Bool.not_false, cond_true, cond_false, if_true, if_false, ite_true, ite_false, reduceIte, reduceCtorEq, Bool.false_eq_true, startE, List.replicate, List.append_eq, List.nil_append, List.cons_append, List.append_nil, fin, TV.atI0, TV.atI1, Option.bind_some, Option.map_some, Bool.and_self, Bool.or_self, Nat.reduceSub, Nat.reduceAdd, Nat.reduceEqDiff, Bool.not_eq_true, Bool.and_eq_true, decide_true, decide_false, real_eq_int, real_eq_bl, real_eq_non, real_eq_enc, real_eq_enc2, eqD_int, eqD_bl, eqD_pair, Int.reduceEq, Int.reduceToNat, Int.reduceLE, Int.reduceLT, nab10, nab2, castn0, castn1, castn2, castn3, castn4, castn5, Nat.reduceLT, and_self, and_true, true_and, and_false, false_and, if_pos trivial, not_true_eq_false, not_false_eq_true, Bool.or_true, Bool.or_false, Bool.true_or, Bool.false_or, e, q1, q2, s3]
theorem run_sum {B K : Nat} (hB : 0 < B) {ms : List TvM} {hs : List Rat} (hm : ∀ m ∈ ms, Mb B m) (hh : ∀ q ∈ hs, Rb K q) (hs2 : B + K ≤ 2 ^ 18) (hl : ms.length ≤ 100) :
    run real exc glb T (n + 10) "measured" [.str "sum", .lst .sh (ms.map encMk), .lst .sh (hs.map enc)] = some (.ok (enc (sumOf ms hs))) := by
  rw [run_eq (f := "measured") (d := f_measured) h rfl]
  show fin (evSs (ctx real exc glb T (n + 9)) c_measured [.str "sum", .lst .sh (ms.map encMk), .lst .sh (hs.map enc), .hole, .hole, .hole, .hole]) = _
  rw [evSs_split _ 3, measured_head hc hf hpl hmi hpr hle hsz hto hgr hmo hnk hwe h hm hh hs2 hl "sum" (.inr (.inl rfl)), sq_nx]
  have hb : ∀ q ∈ (missQ ms hs).map Rat.abs, Rb (B + K + 1) q := fun q hq => by
    obtain ⟨p, hp, rfl⟩ := List.mem_map.mp hq
    exact (missQ_bd hm hh p hp).abs
  have e1 := run_weighed (exc := exc) (glb := glb) (n := n + 5) hc hf hpr hwe hB hm hb (by omega) (by omega)
  have hlw : (weiQ ms ((missQ ms hs).map Rat.abs)).length ≤ 100 := by unfold weiQ; rw [List.length_map, List.length_zip]; omega
  have e2 := run_total_of (exc := exc) (glb := glb) (n := n + 5) hc hf hpl hto (weiQ_bd hB hm hb) (by
    have : ((weiQ ms ((missQ ms hs).map Rat.abs)).length + 2) * (B + (B + K + 1) + 1) ≤ 102 * (B + (B + K + 1) + 1) := Nat.mul_le_mul_right _ (by omega)
    omega)
  have q1 : eqD (.str "sum") (.str "far") = false := by rw [str_eq]; decide +kernel
  have q1' : eqD (.str "sum") (.str "sum") = true := eqD_refl _
  have q2 : real.eq (.str "far") = true := by decide +kernel
  have q3 : real.eq (.str "sum") = true := by decide +kernel
  have s1 := shareL_encMk ms
  have s3 := shareL_encs ((missQ ms hs).map Rat.abs)
  have s4 := shareL_encs (weiQ ms ((missQ ms hs).map Rat.abs))
  unfold sumOf
  generalize hs.map enc = l at *
  generalize ms.map encMk = l2 at *
  generalize (missQ ms hs).map enc = l3 at *
  generalize ((missQ ms hs).map Rat.abs).map enc = l4 at *
  generalize (weiQ ms ((missQ ms hs).map Rat.abs)).map enc = l5 at *
  unfold enc at *
  simp only [c_measured, dropS, evE_mv, evE_fr, evE_bo, evE_lit, evE_glb, evE_shr, evE_bin, evE_neg, evE_not, evE_and, evE_or, evE_cmp, evE_ix, evE_pth, evE_sl, evE_tup, evE_lst, evE_call, evE_bi, evE_isi, evE_pop, evE_lrv, evE_lrg, evEs_nil, evEs_cons, evEo_no, evEo_so, evC_no, evC_so, evIt_list, evIt_rg1, evIt_rg2, evIt_rg3, evIt_rev, evIt_zip, evIt_enum, evIt_str, evIt_brw, evIt_tupi, evS_asg, evS_unp, evS_par, evS_swp, evS_set1, evS_aug, evS_mut0, evS_ex, evS_ifs, evS_scn, evS_ret, evS_rse, evS_try1, evS_try2, evS_brk, evS_cnt, evS_pas, evS_kil, evSs_nil, evSs_cons, sq_nx, sq_rt, sq_bk, sq_ct, sq_ex, evS_whl, evS_frs, evE_lc, bnd, sbnd, obnd, raw, res, resL, rawL, valsL, anyBor, opBin, opCmp, opBi, biAbs, biInt, biStr, biLen, biList, biSum, biMax, biMin, biAll, Itr.bk, putBack, itemsOf, hkGo, boolsOf, opNeg, opNot, ixD, slD, litD, atom, isD, D.share, shareL, D.isHole, D.whole, wholeL, D.noOw, noOwL, D.noSh, noShL, stIx, owAt, asB, setTg, putE, mutD, mtAppend, mtExtend, mtPop, mtClear, mtInsert, kill, List.foldl_cons, List.foldl_nil, List.getElem?_cons_zero, List.getElem?_cons_succ, List.getElem?_nil, List.set_cons_zero, List.set_cons_succ, List.length_cons, List.length_nil, Bool.and_true, Bool.true_and, Bool.and_false, Bool.false_and, Bool.not_true, Bool.not_false, cond_true, cond_false, if_true, if_false, ite_true, ite_false, reduceIte, reduceCtorEq, Bool.false_eq_true, startE, List.replicate, List.append_eq, List.nil_append, List.cons_append, List.append_nil, fin, TV.atI0, TV.atI1, Option.bind_some, Option.map_some, Bool.and_self, Bool.or_self, Nat.reduceSub, Nat.reduceAdd, Nat.reduceEqDiff, Bool.not_eq_true, Bool.and_eq_true, decide_true, decide_false, real_eq_int, real_eq_bl, real_eq_non, real_eq_enc, real_eq_enc2, eqD_int, eqD_bl, eqD_pair, Int.reduceEq, Int.reduceToNat, Int.reduceLE, Int.reduceLT, nab10, nab2, castn0, castn1, castn2, castn3, castn4, castn5, Nat.reduceLT, and_self, and_true, true_and, and_false, false_and, if_pos trivial, not_true_eq_false, not_false_eq_true, Bool.or_true, Bool.or_false, Bool.true_or, Bool.false_or, e1, e2, q1, q1', q2, q3, s1, s3, s4]
theorem run_square {B K : Nat} (hB : 0 < B) {ms : List TvM} {hs : List Rat} (hm : ∀ m ∈ ms, Mb B m) (hh : ∀ q ∈ hs, Rb K q) (hs2 : B + K ≤ 2 ^ 17) (hl : ms.length ≤ 100) :
    run real exc glb T (n + 10) "measured" [.str "square", .lst .sh (ms.map encMk), .lst .sh (hs.map enc)] = some (.ok (enc (sqOf ms hs))) := by
  rw [run_eq (f := "measured") (d := f_measured) h rfl]
  show fin (evSs (ctx real exc glb T (n + 9)) c_measured [.str "square", .lst .sh (ms.map encMk), .lst .sh (hs.map enc), .hole, .hole, .hole, .hole]) = _
  rw [evSs_split _ 3, measured_head hc hf hpl hmi hpr hle hsz hto hgr hmo hnk hwe h hm hh (by omega) hl "square" (.inr (.inr rfl)), sq_nx]
  have hb := missQ_bd hm hh
  have hb2 := weiQ_bd hB hm hb
  have e1 := run_weighed (exc := exc) (glb := glb) (n := n + 5) hc hf hpr hwe hB hm hb (by omega) (by omega)
  have hlm : (missQ ms hs).length ≤ 100 := by unfold missQ; rw [List.length_map, List.length_zip]; omega
  obtain ⟨sq, hsq⟩ : ∃ sq : List Rat, sq = ((weiQ ms (missQ ms hs)).zip (missQ ms hs)).map fun p => p.1 * p.2 := ⟨_, rfl⟩
  have hlq : sq.length ≤ 100 := by rw [hsq, List.length_map, List.length_zip]; omega
  have hqb : ∀ q ∈ sq, Rb (B + (B + K + 1) + (B + K + 1)) q := fun q hq => by
    rw [hsq] at hq
    obtain ⟨p, hp, rfl⟩ := List.mem_map.mp hq
    have h1 := List.of_mem_zip (a := p.1) (b := p.2) hp
    exact (hb2 _ h1.1).mul (hb _ h1.2)
  have e2 := run_total_of (exc := exc) (glb := glb) (n := n + 5) hc hf hpl hto hqb (by
    have : (sq.length + 2) * (B + (B + K + 1) + (B + K + 1) + 1) ≤ 102 * (B + (B + K + 1) + (B + K + 1) + 1) := Nat.mul_le_mul_right _ (by omega)
    omega)
  have hcm := comp_all (C := ctx real exc glb T (n + 9)) (elt := .call "product" (.cons (.bo 6) (.cons (.bo 5) .nil))) (tg := .many [6, 5]) (cond := .no) (own := [6, 5]) (fun p : Rat × Rat => D.tup [enc p.1, enc p.2]) (fun p => some (enc (p.1 * p.2))) [.str "square", .lst .sh (ms.map encMk), .lst .sh (hs.map enc), .lst .sh ((missQ ms hs).map enc), .lst .ow (((missQ ms hs).map Rat.abs).map enc), .hole, .hole] ((weiQ ms (missQ ms hs)).zip (missQ ms hs)) (fun p hp => by
    refine ⟨[.str "square", .lst .sh (ms.map encMk), .lst .sh (hs.map enc), .lst .sh ((missQ ms hs).map enc), .lst .ow (((missQ ms hs).map Rat.abs).map enc), enc p.2, enc p.1], fun env henv => ?_, rfl⟩
    have h1 := List.of_mem_zip (a := p.1) (b := p.2) hp
    have e := run_product (exc := exc) (glb := glb) (n := n + 6) hc hf hpr (hb2 _ h1.1) (hb _ h1.2) (by omega)
    rw [lcF_at, henv]
    generalize hs.map enc = l at *
    generalize ms.map encMk = l2 at *
    generalize (missQ ms hs).map enc = l3 at *
    generalize ((missQ ms hs).map Rat.abs).map enc = l4 at *
    unfold enc at *
    simp only [evE_mv, evE_fr, evE_bo, evE_lit, evE_glb, evE_shr, evE_bin, evE_neg, evE_not, evE_and, evE_or, evE_cmp, evE_ix, evE_pth, evE_sl, evE_tup, evE_lst, evE_call, evE_bi, evE_isi, evE_pop, evE_lrv, evE_lrg, evEs_nil, evEs_cons, evEo_no, evEo_so, evC_no, evC_so, evIt_list, evIt_rg1, evIt_rg2, evIt_rg3, evIt_rev, evIt_zip, evIt_enum, evIt_str, evIt_brw, evIt_tupi, evS_asg, evS_unp, evS_par, evS_swp, evS_set1, evS_aug, evS_mut0, evS_ex, evS_ifs, evS_scn, evS_ret, evS_rse, evS_try1, evS_try2, evS_brk, evS_cnt, evS_pas, evS_kil, evSs_nil, evSs_cons, sq_nx, sq_rt, sq_bk, sq_ct, sq_ex, evS_whl, evS_frs, evE_lc, bnd, sbnd, obnd, raw, res, resL, rawL, valsL, anyBor, opBin, opCmp, opBi, biAbs, biInt, biStr, biLen, biList, biSum, biMax, biMin, biAll, Itr.bk, putBack, itemsOf, hkGo, boolsOf, opNeg, opNot, ixD, slD, litD, atom, isD, D.share, shareL, D.isHole, D.whole, wholeL, D.noOw, noOwL, D.noSh, noShL, stIx, owAt, asB, setTg, putE, mutD, mtAppend, mtExtend, mtPop, mtClear, mtInsert, kill, List.foldl_cons, List.foldl_nil, List.getElem?_cons_zero, List.getElem?_cons_succ, List.getElem?_nil, List.set_cons_zero, List.set_cons_succ, List.length_cons, List.length_nil, Bool.and_true, Bool.true_and, Bool.and_false, Bool.false_and, Bool.not_true, Bool.not_false, cond_true, cond_false, if_true, if_false, ite_true, ite_false, reduceIte, reduceCtorEq, Bool.false_eq_true, startE, List.replicate, List.append_eq, List.nil_append, List.cons_append, List.append_nil, fin, TV.atI0, TV.atI1, Option.bind_some, Option.map_some, Bool.and_self, Bool.or_self, Nat.reduceSub, Nat.reduceAdd, Nat.reduceEqDiff, Bool.not_eq_true, Bool.and_eq_true, decide_true, decide_false, real_eq_int, real_eq_bl, real_eq_non, real_eq_enc, real_eq_enc2, eqD_int, eqD_bl, eqD_pair, Int.reduceEq, Int.reduceToNat, Int.reduceLE, Int.reduceLT, nab10, nab2, castn0, castn1, castn2, castn3, castn4, castn5, Nat.reduceLT, and_self, and_true, true_and, and_false, false_and, if_pos trivial, not_true_eq_false, not_false_eq_true, Bool.or_true, Bool.or_false, Bool.true_or, Bool.false_or, e]) [.str "square", .lst .sh (ms.map encMk), .lst .sh (hs.map enc), .lst .sh ((missQ ms hs).map enc), .lst .ow (((missQ ms hs).map Rat.abs).map enc), .hole, .hole] rfl
  rw [filterMap_some (fun p : Rat × Rat => enc (p.1 * p.2)), ← zip2_map] at hcm
  have er : ((weiQ ms (missQ ms hs)).zip (missQ ms hs)).map (fun p : Rat × Rat => enc (p.1 * p.2)) = sq.map enc := by rw [hsq, List.map_map]; rfl
  rw [er] at hcm
  have hlen : real.len ((zip2D ((weiQ ms (missQ ms hs)).map enc) ((missQ ms hs).map enc)).length) = true := real_len (by rw [zip2_map, List.length_map, List.length_zip]; omega)
  have q1 : eqD (.str "square") (.str "far") = false := by rw [str_eq]; decide +kernel
  have q1' : eqD (.str "square") (.str "sum") = false := by rw [str_eq]; decide +kernel
  have q2 : real.eq (.str "far") = true := by decide +kernel
  have q3 : real.eq (.str "sum") = true := by decide +kernel
  have q4 : real.eq (.str "square") = true := by decide +kernel
  have s1 := shareL_encMk ms
  have s3 := shareL_encs (missQ ms hs)
  have s4 := shareL_encs sq
  have ho3 := noOwL_encs (missQ ms hs)
  have ho4 := noOwL_encs (weiQ ms (missQ ms hs))
  unfold sqOf
  rw [← hsq]
  generalize hs.map enc = l at *
  generalize ms.map encMk = l2 at *
  generalize (missQ ms hs).map enc = l3 at *
  generalize ((missQ ms hs).map Rat.abs).map enc = l4 at *
  generalize (weiQ ms (missQ ms hs)).map enc = l5 at *
  generalize sq.map enc = l6 at *
  unfold enc at *
  simp only [c_measured, dropS, evE_mv, evE_fr, evE_bo, evE_lit, evE_glb, evE_shr, evE_bin, evE_neg, evE_not, evE_and, evE_or, evE_cmp, evE_ix, evE_pth, evE_sl, evE_tup, evE_lst, evE_call, evE_bi, evE_isi, evE_pop, evE_lrv, evE_lrg, evEs_nil, evEs_cons, evEo_no, evEo_so, evC_no, evC_so, evIt_list, evIt_rg1, evIt_rg2, evIt_rg3, evIt_rev, evIt_zip, evIt_enum, evIt_str, evIt_brw, evIt_tupi, evS_asg, evS_unp, evS_par, evS_swp, evS_set1, evS_aug, evS_mut0, evS_ex, evS_ifs, evS_scn, evS_ret, evS_rse, evS_try1, evS_try2, evS_brk, evS_cnt, evS_pas, evS_kil, evSs_nil, evSs_cons, sq_nx, sq_rt, sq_bk, sq_ct, sq_ex, evS_whl, evS_frs, evE_lc, bnd, sbnd, obnd, raw, res, resL, rawL, valsL, anyBor, opBin, opCmp, opBi, biAbs, biInt, biStr, biLen, biList, biSum, biMax, biMin, biAll, Itr.bk, putBack, itemsOf, hkGo, boolsOf, opNeg, opNot, ixD, slD, litD, atom, isD, D.share, shareL, D.isHole, D.whole, wholeL, D.noOw, noOwL, D.noSh, noShL, stIx, owAt, asB, setTg, putE, mutD, mtAppend, mtExtend, mtPop, mtClear, mtInsert, kill, List.foldl_cons, List.foldl_nil, List.getElem?_cons_zero, List.getElem?_cons_succ, List.getElem?_nil, List.set_cons_zero, List.set_cons_succ, List.length_cons, List.length_nil, Bool.and_true, Bool.true_and, Bool.and_false, Bool.false_and, Bool.not_true, Bool.not_false, cond_true, cond_false, if_true, if_false, ite_true, ite_false, reduceIte, reduceCtorEq, Bool.false_eq_true, startE, List.replicate, List.append_eq, List.nil_append, List.cons_append, List.append_nil, fin, TV.atI0, TV.atI1, Option.bind_some, Option.map_some, Bool.and_self, Bool.or_self, Nat.reduceSub, Nat.reduceAdd, Nat.reduceEqDiff, Bool.not_eq_true, Bool.and_eq_true, decide_true, decide_false, real_eq_int, real_eq_bl, real_eq_non, real_eq_enc, real_eq_enc2, eqD_int, eqD_bl, eqD_pair, Int.reduceEq, Int.reduceToNat, Int.reduceLE, Int.reduceLT, nab10, nab2, castn0, castn1, castn2, castn3, castn4, castn5, Nat.reduceLT, and_self, and_true, true_and, and_false, false_and, if_pos trivial, not_true_eq_false, not_false_eq_true, Bool.or_true, Bool.or_false, Bool.true_or, Bool.false_or, e1, e2, q1, q1', q2, q3, q4, s1, s3, s4, ho3, ho4, hlen, hcm]
end
end TV
namespace TV
open PySem PySem.Spec PyProof.Rows L2
/-- a loop that looks for something -/
theorem loop_find {C : TV.Ctx} {tg : Tg} {b : Ss} {β : Type} (g : β → D) (env : TV.Env) (d : D) (c : β → Bool) : ∀ qs : List β, (∀ q ∈ qs, bodF C tg b (g q) env = if c q = true then some (.rt d) else some (.nx env)) → loopF C tg b (qs.map g) env = if qs.any c = true then some (.rt d) else some (.nx env)
  | [], _ => rfl
  | q :: qs, h => by
    have h1 := h q List.mem_cons_self
    have h2 := loop_find g env d c qs fun p hp => h p (List.mem_cons_of_mem _ hp)
    unfold loopF at h2 ⊢
    rw [List.map_cons, forGo, h1, List.any_cons]
    cases hc : c q with
    | true => rfl
    | false => rw [if_neg Bool.false_ne_true]; exact h2
def scanQ {α β : Type} (f : α → β → α) (c : α → β → Bool) : List β → α → Option α
  | [], a => some a
  | q :: qs, a => if c (f a q) q = true then none else scanQ f c qs (f a q)
theorem loop_scan {C : TV.Ctx} {tg : Tg} {b : Ss} {α β : Type} (g : β → D) (mk : α → TV.Env) (d : D) (f : α → β → α) (c : α → β → Bool) : ∀ (qs : List β) (P : Nat → α → Prop) (a : α), P 0 a → (∀ i a q, qs[i]? = some q → P i a → bodF C tg b (g q) (mk a) = (if c (f a q) q = true then some (.rt d) else some (.nx (mk (f a q)))) ∧ P (i + 1) (f a q)) →
    loopF C tg b (qs.map g) (mk a) = match scanQ f c qs a with
      | none => some (.rt d)
      | some a' => some (.nx (mk a'))
  | [], P, a, hp, _ => rfl
  | q :: qs, P, a, hp, h => by
    obtain ⟨h1, h2⟩ := h 0 a q rfl hp
    have h3 := loop_scan g mk d f c qs (fun k => P (k + 1)) (f a q) h2 fun i a d hd hp => h (i + 1) a d (by rw [List.getElem?_cons_succ]; exact hd) hp
    unfold loopF at h3 ⊢
    rw [List.map_cons, forGo, h1, scanQ]
    cases hc : c (f a q) q with
    | true => rfl
    | false =>
      rw [if_neg Bool.false_ne_true, if_neg Bool.false_ne_true]
      exact h3
def risesB (qs : List Rat) : Bool := !(List.range (qs.length - 1)).any fun k => decide (qs.getD (k + 1) 0 < qs.getD k 0)
def levelOn (row : List Rat) (k : Nat) : Bool := decide (k + 1 < row.length) && decide (row.getD (k + 1) 0 = row.getD k 0)
def holdsB (row pulls : List Rat) : Bool := (scanQ (fun a k => a + pulls.getD k 0) (fun a k => decide (a.num < 0) || (decide (0 < a.num) && !levelOn row k)) (List.range pulls.length) 0).isSome
theorem get_encs (qs : List Rat) (k : Nat) (h : k < qs.length) : atI (qs.map enc) (k : Int) = some (enc (qs.getD k 0)) := atI_encs qs k h
theorem mem_getD {qs : List Rat} {P : Rat → Prop} (h : ∀ q ∈ qs, P q) {k : Nat} (hk : k < qs.length) : P (qs.getD k 0) := by
  rw [List.getD_eq_getElem?_getD, List.getElem?_eq_getElem hk]
  exact h _ (List.getElem_mem hk)
section
variable {exc : Xs} {glb : Str → Option D} {T : List Fn} {n : Nat}
theorem run_rises (hl : Has T f_is_less) (h : Has T f_rises) {B : Nat} {qs : List Rat} (hq : ∀ q ∈ qs, Rb B q) (hs : B + B ≤ 2 ^ 26) (hlen : 0 < qs.length ∧ qs.length < 2 ^ 24) :
    run real exc glb T (n + 2) "rises" [.lst .sh (qs.map enc)] = some (.ok (.bl (risesB qs))) := by
  rw [run_eq (f := "rises") (d := f_rises) h rfl]
  have lq : (qs.map enc).length = qs.length := List.length_map ..
  have hloop := loop_find (C := ctx real exc glb T (n + 1)) (tg := .one 1) (b := (nthS 0 c_rises).bodyOf) (fun k : Nat => D.int (1 + (k : Int) * 1)) [.lst .sh (qs.map enc), .hole] (.bl false) (fun k => decide (qs.getD (k + 1) 0 < qs.getD k 0)) (List.range (qs.length - 1)) (fun k hk => by
    have hk := List.mem_range.mp hk
    have e1 : (1 : Int) + (k : Int) * 1 = ((k + 1 : Nat) : Int) := by omega
    have e2 : ((k + 1 : Nat) : Int) - 1 = (k : Int) := by omega
    have a1 := atI_encs qs (k + 1) (by omega)
    have a2 := atI_encs qs k (by omega)
    have e := run_is_less (exc := exc) (glb := glb) (n := n) hl (mem_getD hq (k := k + 1) (by omega)) (mem_getD hq (k := k) (by omega)) hs
    generalize qs.map enc = l at *
    by_cases c : qs.getD (k + 1) 0 < qs.getD k 0
    · rw [if_pos (decide_eq_true c)]
      unfold enc at *
      simp only [bodF, c_rises, nthS, S.bodyOf, evE_mv, evE_fr, evE_bo, evE_lit, evE_glb, evE_shr, evE_bin, evE_neg, evE_not, evE_and, evE_or, evE_cmp, evE_ix, evE_pth, evE_sl, evE_tup, evE_lst, evE_call, evE_bi, evE_isi, evE_pop, evE_lrv, evE_lrg, evEs_nil, evEs_cons, evEo_no, evEo_so, evC_no, evC_so, evIt_list, evIt_rg1, evIt_rg2, evIt_rg3, evIt_rev, evIt_zip, evIt_enum, evIt_str, evIt_brw, evIt_tupi, evS_asg, evS_unp, evS_par, evS_swp, evS_set1, evS_aug, evS_mut0, evS_ex, evS_ifs, evS_scn, evS_ret, evS_rse, evS_try1, evS_try2, evS_brk, evS_cnt, evS_pas, evS_kil, evSs_nil, evSs_cons, sq_nx, sq_rt, sq_bk, sq_ct, sq_ex, evS_whl, evS_frs, evE_lc, bnd, sbnd, obnd, raw, res, resL, rawL, valsL, anyBor, opBin, opCmp, opBi, biAbs, biInt, biStr, biLen, biList, biSum, biMax, biMin, biAll, Itr.bk, putBack, itemsOf, hkGo, boolsOf, opNeg, opNot, ixD, slD, litD, atom, isD, D.share, shareL, D.isHole, D.whole, wholeL, D.noOw, noOwL, D.noSh, noShL, stIx, owAt, asB, setTg, putE, mutD, mtAppend, mtExtend, mtPop, mtClear, mtInsert, kill, List.foldl_cons, List.foldl_nil, List.getElem?_cons_zero, List.getElem?_cons_succ, List.getElem?_nil, List.set_cons_zero, List.set_cons_succ, List.length_cons, List.length_nil, Bool.and_true, Bool.true_and, Bool.and_false, Bool.false_and, Bool.not_true, Bool.not_false, cond_true, cond_false, if_true, if_false, ite_true, ite_false, reduceIte, reduceCtorEq, Bool.false_eq_true, startE, List.replicate, List.append_eq, List.nil_append, List.cons_append, List.append_nil, fin, TV.atI0, TV.atI1, Option.bind_some, Option.map_some, Bool.and_self, Bool.or_self, Nat.reduceSub, Nat.reduceAdd, Nat.reduceEqDiff, Bool.not_eq_true, Bool.and_eq_true, decide_true, decide_false, real_eq_int, real_eq_bl, real_eq_non, real_eq_enc, real_eq_enc2, eqD_int, eqD_bl, eqD_pair, Int.reduceEq, Int.reduceToNat, Int.reduceLE, Int.reduceLT, nab10, nab2, castn0, castn1, castn2, castn3, castn4, castn5, Nat.reduceLT, and_self, and_true, true_and, and_false, false_and, if_pos trivial, not_true_eq_false, not_false_eq_true, Bool.or_true, Bool.or_false, Bool.true_or, Bool.false_or, e1, e2, a1, a2, e, c]
    · rw [if_neg (by simpa using c)]
      unfold enc at *
      simp only [bodF, c_rises, nthS, S.bodyOf, evE_mv, evE_fr, evE_bo, evE_lit, evE_glb, evE_shr, evE_bin, evE_neg, evE_not, evE_and, evE_or, evE_cmp, evE_ix, evE_pth, evE_sl, evE_tup, evE_lst, evE_call, evE_bi, evE_isi, evE_pop, evE_lrv, evE_lrg, evEs_nil, evEs_cons, evEo_no, evEo_so, evC_no, evC_so, evIt_list, evIt_rg1, evIt_rg2, evIt_rg3, evIt_rev, evIt_zip, evIt_enum, evIt_str, evIt_brw, evIt_tupi, evS_asg, evS_unp, evS_par, evS_swp, evS_set1, evS_aug, evS_mut0, evS_ex, evS_ifs, evS_scn, evS_ret, evS_rse, evS_try1, evS_try2, evS_brk, evS_cnt, evS_pas, evS_kil, evSs_nil, evSs_cons, sq_nx, sq_rt, sq_bk, sq_ct, sq_ex, evS_whl, evS_frs, evE_lc, bnd, sbnd, obnd, raw, res, resL, rawL, valsL, anyBor, opBin, opCmp, opBi, biAbs, biInt, biStr, biLen, biList, biSum, biMax, biMin, biAll, Itr.bk, putBack, itemsOf, hkGo, boolsOf, opNeg, opNot, ixD, slD, litD, atom, isD, D.share, shareL, D.isHole, D.whole, wholeL, D.noOw, noOwL, D.noSh, noShL, stIx, owAt, asB, setTg, putE, mutD, mtAppend, mtExtend, mtPop, mtClear, mtInsert, kill, List.foldl_cons, List.foldl_nil, List.getElem?_cons_zero, List.getElem?_cons_succ, List.getElem?_nil, List.set_cons_zero, List.set_cons_succ, List.length_cons, List.length_nil, Bool.and_true, Bool.true_and, Bool.and_false, Bool.false_and, Bool.not_true, Bool.not_false, cond_true, cond_false, if_true, if_false, ite_true, ite_false, reduceIte, reduceCtorEq, Bool.false_eq_true, startE, List.replicate, List.append_eq, List.nil_append, List.cons_append, List.append_nil, fin, TV.atI0, TV.atI1, Option.bind_some, Option.map_some, Bool.and_self, Bool.or_self, Nat.reduceSub, Nat.reduceAdd, Nat.reduceEqDiff, Bool.not_eq_true, Bool.and_eq_true, decide_true, decide_false, real_eq_int, real_eq_bl, real_eq_non, real_eq_enc, real_eq_enc2, eqD_int, eqD_bl, eqD_pair, Int.reduceEq, Int.reduceToNat, Int.reduceLE, Int.reduceLT, nab10, nab2, castn0, castn1, castn2, castn3, castn4, castn5, Nat.reduceLT, and_self, and_true, true_and, and_false, false_and, if_pos trivial, not_true_eq_false, not_false_eq_true, Bool.or_true, Bool.or_false, Bool.true_or, Bool.false_or, e1, e2, a1, a2, e, c])
  have hit : evIt (ctx real exc glb T (n + 1)) (.rg2 (.lit (.int 1)) (.bi .len (.cons (.bo 0) .nil))) [.lst .sh (qs.map enc), .hole] = some (.ok ([], rgD 1 (qs.length - 1) 1) [.lst .sh (qs.map enc), .hole]) := by
    have := rg2_of (C := ctx real exc glb T (n + 1)) (a := .lit (.int 1)) (b := .bi .len (.cons (.bo 0) .nil)) (env := [.lst .sh (qs.map enc), .hole]) (e1 := [.lst .sh (qs.map enc), .hole]) (e2 := [.lst .sh (qs.map enc), .hole]) (t1 := .val (.int 1)) (t2 := .val (.int qs.length)) (i := 1) (j := qs.length) (by simp only [evE_mv, evE_fr, evE_bo, evE_lit, evE_glb, evE_shr, evE_bin, evE_neg, evE_not, evE_and, evE_or, evE_cmp, evE_ix, evE_pth, evE_sl, evE_tup, evE_lst, evE_call, evE_bi, evE_isi, evE_pop, evE_lrv, evE_lrg, evEs_nil, evEs_cons, evEo_no, evEo_so, evC_no, evC_so, evIt_list, evIt_rg1, evIt_rg2, evIt_rg3, evIt_rev, evIt_zip, evIt_enum, evIt_str, evIt_brw, evIt_tupi, evS_asg, evS_unp, evS_par, evS_swp, evS_set1, evS_aug, evS_mut0, evS_ex, evS_ifs, evS_scn, evS_ret, evS_rse, evS_try1, evS_try2, evS_brk, evS_cnt, evS_pas, evS_kil, evSs_nil, evSs_cons, sq_nx, sq_rt, sq_bk, sq_ct, sq_ex, evS_whl, evS_frs, evE_lc, bnd, sbnd, obnd, raw, res, resL, rawL, valsL, anyBor, opBin, opCmp, opBi, biAbs, biInt, biStr, biLen, biList, biSum, biMax, biMin, biAll, Itr.bk, putBack, itemsOf, hkGo, boolsOf, opNeg, opNot, ixD, slD, litD, atom, isD, D.share, shareL, D.isHole, D.whole, wholeL, D.noOw, noOwL, D.noSh, noShL, stIx, owAt, asB, setTg, putE, mutD, mtAppend, mtExtend, mtPop, mtClear, mtInsert, kill, List.foldl_cons, List.foldl_nil, List.getElem?_cons_zero, List.getElem?_cons_succ, List.getElem?_nil, List.set_cons_zero, List.set_cons_succ, List.length_cons, List.length_nil, Bool.and_true, Bool.true_and, Bool.and_false, Bool.false_and, Bool.not_true, Bool.not_false, cond_true, cond_false, if_true, if_false, ite_true, ite_false, reduceIte, reduceCtorEq, Bool.false_eq_true, startE, List.replicate, List.append_eq, List.nil_append, List.cons_append, List.append_nil, fin, TV.atI0, TV.atI1, Option.bind_some, Option.map_some, Bool.and_self, Bool.or_self, Nat.reduceSub, Nat.reduceAdd, Nat.reduceEqDiff, Bool.not_eq_true, Bool.and_eq_true, decide_true, decide_false, real_eq_int, real_eq_bl, real_eq_non, real_eq_enc, real_eq_enc2, eqD_int, eqD_bl, eqD_pair, Int.reduceEq, Int.reduceToNat, Int.reduceLE, Int.reduceLT, nab10, nab2, castn0, castn1, castn2, castn3, castn4, castn5, Nat.reduceLT, and_self, and_true, true_and, and_false, false_and, if_pos trivial, not_true_eq_false, not_false_eq_true, Bool.or_true, Bool.or_false, Bool.true_or, Bool.false_or]) (by simp only [evE_mv, evE_fr, evE_bo, evE_lit, evE_glb, evE_shr, evE_bin, evE_neg, evE_not, evE_and, evE_or, evE_cmp, evE_ix, evE_pth, evE_sl, evE_tup, evE_lst, evE_call, evE_bi, evE_isi, evE_pop, evE_lrv, evE_lrg, evEs_nil, evEs_cons, evEo_no, evEo_so, evC_no, evC_so, evIt_list, evIt_rg1, evIt_rg2, evIt_rg3, evIt_rev, evIt_zip, evIt_enum, evIt_str, evIt_brw, evIt_tupi, evS_asg, evS_unp, evS_par, evS_swp, evS_set1, evS_aug, evS_mut0, evS_ex, evS_ifs, evS_scn, evS_ret, evS_rse, evS_try1, evS_try2, evS_brk, evS_cnt, evS_pas, evS_kil, evSs_nil, evSs_cons, sq_nx, sq_rt, sq_bk, sq_ct, sq_ex, evS_whl, evS_frs, evE_lc, bnd, sbnd, obnd, raw, res, resL, rawL, valsL, anyBor, opBin, opCmp, opBi, biAbs, biInt, biStr, biLen, biList, biSum, biMax, biMin, biAll, Itr.bk, putBack, itemsOf, hkGo, boolsOf, opNeg, opNot, ixD, slD, litD, atom, isD, D.share, shareL, D.isHole, D.whole, wholeL, D.noOw, noOwL, D.noSh, noShL, stIx, owAt, asB, setTg, putE, mutD, mtAppend, mtExtend, mtPop, mtClear, mtInsert, kill, List.foldl_cons, List.foldl_nil, List.getElem?_cons_zero, List.getElem?_cons_succ, List.getElem?_nil, List.set_cons_zero, List.set_cons_succ, List.length_cons, List.length_nil, Bool.and_true, Bool.true_and, Bool.and_false, Bool.false_and, Bool.not_true, Bool.not_false, cond_true, cond_false, if_true, if_false, ite_true, ite_false, reduceIte, reduceCtorEq, Bool.false_eq_true, startE, List.replicate, List.append_eq, List.nil_append, List.cons_append, List.append_nil, fin, TV.atI0, TV.atI1, Option.bind_some, Option.map_some, Bool.and_self, Bool.or_self, Nat.reduceSub, Nat.reduceAdd, Nat.reduceEqDiff, Bool.not_eq_true, Bool.and_eq_true, decide_true, decide_false, real_eq_int, real_eq_bl, real_eq_non, real_eq_enc, real_eq_enc2, eqD_int, eqD_bl, eqD_pair, Int.reduceEq, Int.reduceToNat, Int.reduceLE, Int.reduceLT, nab10, nab2, castn0, castn1, castn2, castn3, castn4, castn5, Nat.reduceLT, and_self, and_true, true_and, and_false, false_and, if_pos trivial, not_true_eq_false, not_false_eq_true, Bool.or_true, Bool.or_false, Bool.true_or, Bool.false_or, lq]) rfl rfl (real_rng (by decide) (by decide)) (real_rng (by omega) (by omega))
    have e : ((qs.length : Int) - 1).toNat = qs.length - 1 := by omega
    rw [e] at this
    exact this
  show fin (evSs (ctx real exc glb T (n + 1)) (.cons (.frs (.one 1) (.rg2 (.lit (.int 1)) (.bi .len (.cons (.bo 0) .nil))) (nthS 0 c_rises).bodyOf) (dropS 1 c_rises)) [.lst .sh (qs.map enc), .hole]) = _
  rw [evSs_cons, evS_frs, hit]
  simp only [sbnd]
  have hloop : loopF (ctx real exc glb T (n + 1)) (.one 1) (nthS 0 c_rises).bodyOf (rgD 1 (qs.length - 1) 1) [.lst .sh (qs.map enc), .hole] = _ := hloop
  rw [hloop]
  unfold risesB
  cases (List.range (qs.length - 1)).any fun k => decide (qs.getD (k + 1) 0 < qs.getD k 0) with
  | true => rfl
  | false =>
    rw [if_neg Bool.false_ne_true]
    generalize qs.map enc = l at *
    simp only [c_rises, dropS, evE_mv, evE_fr, evE_bo, evE_lit, evE_glb, evE_shr, evE_bin, evE_neg, evE_not, evE_and, evE_or, evE_cmp, evE_ix, evE_pth, evE_sl, evE_tup, evE_lst, evE_call, evE_bi, evE_isi, evE_pop, evE_lrv, evE_lrg, evEs_nil, evEs_cons, evEo_no, evEo_so, evC_no, evC_so, evIt_list, evIt_rg1, evIt_rg2, evIt_rg3, evIt_rev, evIt_zip, evIt_enum, evIt_str, evIt_brw, evIt_tupi, evS_asg, evS_unp, evS_par, evS_swp, evS_set1, evS_aug, evS_mut0, evS_ex, evS_ifs, evS_scn, evS_ret, evS_rse, evS_try1, evS_try2, evS_brk, evS_cnt, evS_pas, evS_kil, evSs_nil, evSs_cons, sq_nx, sq_rt, sq_bk, sq_ct, sq_ex, evS_whl, evS_frs, evE_lc, bnd, sbnd, obnd, raw, res, resL, rawL, valsL, anyBor, opBin, opCmp, opBi, biAbs, biInt, biStr, biLen, biList, biSum, biMax, biMin, biAll, Itr.bk, putBack, itemsOf, hkGo, boolsOf, opNeg, opNot, ixD, slD, litD, atom, isD, D.share, shareL, D.isHole, D.whole, wholeL, D.noOw, noOwL, D.noSh, noShL, stIx, owAt, asB, setTg, putE, mutD, mtAppend, mtExtend, mtPop, mtClear, mtInsert, kill, List.foldl_cons, List.foldl_nil, List.getElem?_cons_zero, List.getElem?_cons_succ, List.getElem?_nil, List.set_cons_zero, List.set_cons_succ, List.length_cons, List.length_nil, Bool.and_true, Bool.true_and, Bool.and_false, Bool.false_and, Bool.not_true, Bool.not_false, cond_true, cond_false, if_true, if_false, ite_true, ite_false, reduceIte, reduceCtorEq, Bool.false_eq_true, startE, List.replicate, List.append_eq, List.nil_append, List.cons_append, List.append_nil, fin, TV.atI0, TV.atI1, Option.bind_some, Option.map_some, Bool.and_self, Bool.or_self, Nat.reduceSub, Nat.reduceAdd, Nat.reduceEqDiff, Bool.not_eq_true, Bool.and_eq_true, decide_true, decide_false, real_eq_int, real_eq_bl, real_eq_non, real_eq_enc, real_eq_enc2, eqD_int, eqD_bl, eqD_pair, Int.reduceEq, Int.reduceToNat, Int.reduceLE, Int.reduceLT, nab10, nab2, castn0, castn1, castn2, castn3, castn4, castn5, Nat.reduceLT, and_self, and_true, true_and, and_false, false_and, if_pos trivial, not_true_eq_false, not_false_eq_true, Bool.or_true, Bool.or_false, Bool.true_or, Bool.false_or]
theorem run_holds_up (hc : Has T f_common_divisor) (hf : Has T f_fraction) (hp : Has T f_plus) (h : Has T f_holds_up) {B : Nat} {row pulls : List Rat} (hr : row.length = pulls.length) (hq : ∀ q ∈ pulls, Rb B q) (hs : (pulls.length + 2) * (B + 1) ≤ 2 ^ 26) (hl24 : pulls.length < 2 ^ 24) :
    run real exc glb T (n + 4) "holds_up" [.lst .sh (row.map enc), .lst .sh (pulls.map enc)] = some (.ok (.bl (holdsB row pulls))) := by
  rw [run_eq (f := "holds_up") (d := f_holds_up) h rfl]
  have lr : (row.map enc).length = row.length := List.length_map ..
  have lp : (pulls.map enc).length = row.length := by rw [List.length_map, hr]
  have hloop := loop_scan (C := ctx real exc glb T (n + 3)) (tg := .one 3) (b := (nthS 1 c_holds_up).bodyOf) (fun k : Nat => D.int (0 + (k : Int) * 1)) (fun a : Rat => [.lst .sh (row.map enc), .lst .sh (pulls.map enc), enc a, .hole, .hole]) (.bl false) (fun a k => a + pulls.getD k 0) (fun a k => decide (a.num < 0) || (decide (0 < a.num) && !levelOn row k)) (List.range pulls.length) (fun k a => Rb (1 + k * (B + 1)) a) 0 ⟨Nat.pow_pos (by decide), Nat.one_lt_two_pow (by omega)⟩ (fun k a k' hk ha => by
    have hk1 : k < pulls.length := by have := get_lt hk; rwa [List.length_range] at this
    rw [List.getElem?_range hk1] at hk
    cases hk
    have hq1 := mem_getD hq hk1
    have hm : k * (B + 1) ≤ pulls.length * (B + 1) := Nat.mul_le_mul_right _ (by omega)
    have hstep : (k + 1) * (B + 1) = k * (B + 1) + (B + 1) := Nat.succ_mul k _
    rw [Nat.add_mul] at hs
    have e := run_plus (exc := exc) (glb := glb) (n := n) hc hf hp ha hq1 (by omega)
    refine ⟨?_, (ha.add hq1).mono (by omega)⟩
    have e1 : (0 : Int) + (k : Int) * 1 = (k : Int) := by omega
    have a1 := atI_encs pulls k hk1
    have a2 := atI_encs row k (by omega)
    obtain ⟨b, hb⟩ : ∃ b, b = a + pulls.getD k 0 := ⟨_, rfl⟩
    rw [← hb] at e ⊢
    unfold levelOn
    by_cases c1 : k + 1 < row.length
    · have a3 : atI (row.map enc) ((k : Int) + 1) = some (enc (row.getD (k + 1) 0)) := atI_encs row (k + 1) c1
      have z : (k : Int) + 1 < (row.length : Int) := by omega
      have eqq := eqD_enc (row.getD (k + 1) 0) (row.getD k 0)
      have q1 := real_eq_enc (row.getD (k + 1) 0)
      have q2 := real_eq_enc (row.getD k 0)
      rw [decide_eq_true c1, Bool.true_and]
      generalize row.map enc = l at *
      generalize pulls.map enc = l2 at *
      by_cases c2 : b.num < 0
      · rw [if_pos (by simp [c2])]
        by_cases c3 : row.getD (k + 1) 0 = row.getD k 0
        · rw [decide_eq_true c3] at eqq
          unfold enc at *
          simp only [bodF, c_holds_up, nthS, S.bodyOf, evE_mv, evE_fr, evE_bo, evE_lit, evE_glb, evE_shr, evE_bin, evE_neg, evE_not, evE_and, evE_or, evE_cmp, evE_ix, evE_pth, evE_sl, evE_tup, evE_lst, evE_call, evE_bi, evE_isi, evE_pop, evE_lrv, evE_lrg, evEs_nil, evEs_cons, evEo_no, evEo_so, evC_no, evC_so, evIt_list, evIt_rg1, evIt_rg2, evIt_rg3, evIt_rev, evIt_zip, evIt_enum, evIt_str, evIt_brw, evIt_tupi, evS_asg, evS_unp, evS_par, evS_swp, evS_set1, evS_aug, evS_mut0, evS_ex, evS_ifs, evS_scn, evS_ret, evS_rse, evS_try1, evS_try2, evS_brk, evS_cnt, evS_pas, evS_kil, evSs_nil, evSs_cons, sq_nx, sq_rt, sq_bk, sq_ct, sq_ex, evS_whl, evS_frs, evE_lc, bnd, sbnd, obnd, raw, res, resL, rawL, valsL, anyBor, opBin, opCmp, opBi, biAbs, biInt, biStr, biLen, biList, biSum, biMax, biMin, biAll, Itr.bk, putBack, itemsOf, hkGo, boolsOf, opNeg, opNot, ixD, slD, litD, atom, isD, D.share, shareL, D.isHole, D.whole, wholeL, D.noOw, noOwL, D.noSh, noShL, stIx, owAt, asB, setTg, putE, mutD, mtAppend, mtExtend, mtPop, mtClear, mtInsert, kill, List.foldl_cons, List.foldl_nil, List.getElem?_cons_zero, List.getElem?_cons_succ, List.getElem?_nil, List.set_cons_zero, List.set_cons_succ, List.length_cons, List.length_nil, Bool.and_true, Bool.true_and, Bool.and_false, Bool.false_and, Bool.not_true, Bool.not_false, cond_true, cond_false, if_true, if_false, ite_true, ite_false, reduceIte, reduceCtorEq, Bool.false_eq_true, startE, List.replicate, List.append_eq, List.nil_append, List.cons_append, List.append_nil, fin, TV.atI0, TV.atI1, Option.bind_some, Option.map_some, Bool.and_self, Bool.or_self, Nat.reduceSub, Nat.reduceAdd, Nat.reduceEqDiff, Bool.not_eq_true, Bool.and_eq_true, decide_true, decide_false, real_eq_int, real_eq_bl, real_eq_non, real_eq_enc, real_eq_enc2, eqD_int, eqD_bl, eqD_pair, Int.reduceEq, Int.reduceToNat, Int.reduceLE, Int.reduceLT, nab10, nab2, castn0, castn1, castn2, castn3, castn4, castn5, Nat.reduceLT, and_self, and_true, true_and, and_false, false_and, if_pos trivial, not_true_eq_false, not_false_eq_true, Bool.or_true, Bool.or_false, Bool.true_or, Bool.false_or, e1, a1, a2, a3, lr, z, e, c2, eqq]
        · rw [decide_eq_false c3] at eqq
          unfold enc at *
          simp only [bodF, c_holds_up, nthS, S.bodyOf, evE_mv, evE_fr, evE_bo, evE_lit, evE_glb, evE_shr, evE_bin, evE_neg, evE_not, evE_and, evE_or, evE_cmp, evE_ix, evE_pth, evE_sl, evE_tup, evE_lst, evE_call, evE_bi, evE_isi, evE_pop, evE_lrv, evE_lrg, evEs_nil, evEs_cons, evEo_no, evEo_so, evC_no, evC_so, evIt_list, evIt_rg1, evIt_rg2, evIt_rg3, evIt_rev, evIt_zip, evIt_enum, evIt_str, evIt_brw, evIt_tupi, evS_asg, evS_unp, evS_par, evS_swp, evS_set1, evS_aug, evS_mut0, evS_ex, evS_ifs, evS_scn, evS_ret, evS_rse, evS_try1, evS_try2, evS_brk, evS_cnt, evS_pas, evS_kil, evSs_nil, evSs_cons, sq_nx, sq_rt, sq_bk, sq_ct, sq_ex, evS_whl, evS_frs, evE_lc, bnd, sbnd, obnd, raw, res, resL, rawL, valsL, anyBor, opBin, opCmp, opBi, biAbs, biInt, biStr, biLen, biList, biSum, biMax, biMin, biAll, Itr.bk, putBack, itemsOf, hkGo, boolsOf, opNeg, opNot, ixD, slD, litD, atom, isD, D.share, shareL, D.isHole, D.whole, wholeL, D.noOw, noOwL, D.noSh, noShL, stIx, owAt, asB, setTg, putE, mutD, mtAppend, mtExtend, mtPop, mtClear, mtInsert, kill, List.foldl_cons, List.foldl_nil, List.getElem?_cons_zero, List.getElem?_cons_succ, List.getElem?_nil, List.set_cons_zero, List.set_cons_succ, List.length_cons, List.length_nil, Bool.and_true, Bool.true_and, Bool.and_false, Bool.false_and, Bool.not_true, Bool.not_false, cond_true, cond_false, if_true, if_false, ite_true, ite_false, reduceIte, reduceCtorEq, Bool.false_eq_true, startE, List.replicate, List.append_eq, List.nil_append, List.cons_append, List.append_nil, fin, TV.atI0, TV.atI1, Option.bind_some, Option.map_some, Bool.and_self, Bool.or_self, Nat.reduceSub, Nat.reduceAdd, Nat.reduceEqDiff, Bool.not_eq_true, Bool.and_eq_true, decide_true, decide_false, real_eq_int, real_eq_bl, real_eq_non, real_eq_enc, real_eq_enc2, eqD_int, eqD_bl, eqD_pair, Int.reduceEq, Int.reduceToNat, Int.reduceLE, Int.reduceLT, nab10, nab2, castn0, castn1, castn2, castn3, castn4, castn5, Nat.reduceLT, and_self, and_true, true_and, and_false, false_and, if_pos trivial, not_true_eq_false, not_false_eq_true, Bool.or_true, Bool.or_false, Bool.true_or, Bool.false_or, e1, a1, a2, a3, lr, z, e, c2, eqq]
      · by_cases c4 : 0 < b.num
        · by_cases c3 : row.getD (k + 1) 0 = row.getD k 0
          · rw [if_neg (by rw [decide_eq_false c2, decide_eq_true c4, decide_eq_true c3]; exact Bool.false_ne_true)]
            rw [decide_eq_true c3] at eqq
            unfold enc at *
            simp only [bodF, c_holds_up, nthS, S.bodyOf, evE_mv, evE_fr, evE_bo, evE_lit, evE_glb, evE_shr, evE_bin, evE_neg, evE_not, evE_and, evE_or, evE_cmp, evE_ix, evE_pth, evE_sl, evE_tup, evE_lst, evE_call, evE_bi, evE_isi, evE_pop, evE_lrv, evE_lrg, evEs_nil, evEs_cons, evEo_no, evEo_so, evC_no, evC_so, evIt_list, evIt_rg1, evIt_rg2, evIt_rg3, evIt_rev, evIt_zip, evIt_enum, evIt_str, evIt_brw, evIt_tupi, evS_asg, evS_unp, evS_par, evS_swp, evS_set1, evS_aug, evS_mut0, evS_ex, evS_ifs, evS_scn, evS_ret, evS_rse, evS_try1, evS_try2, evS_brk, evS_cnt, evS_pas, evS_kil, evSs_nil, evSs_cons, sq_nx, sq_rt, sq_bk, sq_ct, sq_ex, evS_whl, evS_frs, evE_lc, bnd, sbnd, obnd, raw, res, resL, rawL, valsL, anyBor, opBin, opCmp, opBi, biAbs, biInt, biStr, biLen, biList, biSum, biMax, biMin, biAll, Itr.bk, putBack, itemsOf, hkGo, boolsOf, opNeg, opNot, ixD, slD, litD, atom, isD, D.share, shareL, D.isHole, D.whole, wholeL, D.noOw, noOwL, D.noSh, noShL, stIx, owAt, asB, setTg, putE, mutD, mtAppend, mtExtend, mtPop, mtClear, mtInsert, kill, List.foldl_cons, List.foldl_nil, List.getElem?_cons_zero, List.getElem?_cons_succ, List.getElem?_nil, List.set_cons_zero, List.set_cons_succ, List.length_cons, List.length_nil, Bool.and_true, Bool.true_and, Bool.and_false, Bool.false_and, Bool.not_true, Bool.not_false, cond_true, cond_false, if_true, if_false, ite_true, ite_false, reduceIte, reduceCtorEq, Bool.false_eq_true, startE, List.replicate, List.append_eq, List.nil_append, List.cons_append, List.append_nil, fin, TV.atI0, TV.atI1, Option.bind_some, Option.map_some, Bool.and_self, Bool.or_self, Nat.reduceSub, Nat.reduceAdd, Nat.reduceEqDiff, Bool.not_eq_true, Bool.and_eq_true, decide_true, decide_false, real_eq_int, real_eq_bl, real_eq_non, real_eq_enc, real_eq_enc2, eqD_int, eqD_bl, eqD_pair, Int.reduceEq, Int.reduceToNat, Int.reduceLE, Int.reduceLT, nab10, nab2, castn0, castn1, castn2, castn3, castn4, castn5, Nat.reduceLT, and_self, and_true, true_and, and_false, false_and, if_pos trivial, not_true_eq_false, not_false_eq_true, Bool.or_true, Bool.or_false, Bool.true_or, Bool.false_or, e1, a1, a2, a3, lr, z, e, c2, c4, eqq]
          · rw [if_pos (by rw [decide_eq_false c2, decide_eq_true c4, decide_eq_false c3]; rfl)]
            rw [decide_eq_false c3] at eqq
            unfold enc at *
            simp only [bodF, c_holds_up, nthS, S.bodyOf, evE_mv, evE_fr, evE_bo, evE_lit, evE_glb, evE_shr, evE_bin, evE_neg, evE_not, evE_and, evE_or, evE_cmp, evE_ix, evE_pth, evE_sl, evE_tup, evE_lst, evE_call, evE_bi, evE_isi, evE_pop, evE_lrv, evE_lrg, evEs_nil, evEs_cons, evEo_no, evEo_so, evC_no, evC_so, evIt_list, evIt_rg1, evIt_rg2, evIt_rg3, evIt_rev, evIt_zip, evIt_enum, evIt_str, evIt_brw, evIt_tupi, evS_asg, evS_unp, evS_par, evS_swp, evS_set1, evS_aug, evS_mut0, evS_ex, evS_ifs, evS_scn, evS_ret, evS_rse, evS_try1, evS_try2, evS_brk, evS_cnt, evS_pas, evS_kil, evSs_nil, evSs_cons, sq_nx, sq_rt, sq_bk, sq_ct, sq_ex, evS_whl, evS_frs, evE_lc, bnd, sbnd, obnd, raw, res, resL, rawL, valsL, anyBor, opBin, opCmp, opBi, biAbs, biInt, biStr, biLen, biList, biSum, biMax, biMin, biAll, Itr.bk, putBack, itemsOf, hkGo, boolsOf, opNeg, opNot, ixD, slD, litD, atom, isD, D.share, shareL, D.isHole, D.whole, wholeL, D.noOw, noOwL, D.noSh, noShL, stIx, owAt, asB, setTg, putE, mutD, mtAppend, mtExtend, mtPop, mtClear, mtInsert, kill, List.foldl_cons, List.foldl_nil, List.getElem?_cons_zero, List.getElem?_cons_succ, List.getElem?_nil, List.set_cons_zero, List.set_cons_succ, List.length_cons, List.length_nil, Bool.and_true, Bool.true_and, Bool.and_false, Bool.false_and, Bool.not_true, Bool.not_false, cond_true, cond_false, if_true, if_false, ite_true, ite_false, reduceIte, reduceCtorEq, Bool.false_eq_true, startE, List.replicate, List.append_eq, List.nil_append, List.cons_append, List.append_nil, fin, TV.atI0, TV.atI1, Option.bind_some, Option.map_some, Bool.and_self, Bool.or_self, Nat.reduceSub, Nat.reduceAdd, Nat.reduceEqDiff, Bool.not_eq_true, Bool.and_eq_true, decide_true, decide_false, real_eq_int, real_eq_bl, real_eq_non, real_eq_enc, real_eq_enc2, eqD_int, eqD_bl, eqD_pair, Int.reduceEq, Int.reduceToNat, Int.reduceLE, Int.reduceLT, nab10, nab2, castn0, castn1, castn2, castn3, castn4, castn5, Nat.reduceLT, and_self, and_true, true_and, and_false, false_and, if_pos trivial, not_true_eq_false, not_false_eq_true, Bool.or_true, Bool.or_false, Bool.true_or, Bool.false_or, e1, a1, a2, a3, lr, z, e, c2, c4, eqq]
        · rw [if_neg (by simp [c2, c4])]
          by_cases c3 : row.getD (k + 1) 0 = row.getD k 0
          · rw [decide_eq_true c3] at eqq
            unfold enc at *
            simp only [bodF, c_holds_up, nthS, S.bodyOf, evE_mv, evE_fr, evE_bo, evE_lit, evE_glb, evE_shr, evE_bin, evE_neg, evE_not, evE_and, evE_or, evE_cmp, evE_ix, evE_pth, evE_sl, evE_tup, evE_lst, evE_call, evE_bi, evE_isi, evE_pop, evE_lrv, evE_lrg, evEs_nil, evEs_cons, evEo_no, evEo_so, evC_no, evC_so, evIt_list, evIt_rg1, evIt_rg2, evIt_rg3, evIt_rev, evIt_zip, evIt_enum, evIt_str, evIt_brw, evIt_tupi, evS_asg, evS_unp, evS_par, evS_swp, evS_set1, evS_aug, evS_mut0, evS_ex, evS_ifs, evS_scn, evS_ret, evS_rse, evS_try1, evS_try2, evS_brk, evS_cnt, evS_pas, evS_kil, evSs_nil, evSs_cons, sq_nx, sq_rt, sq_bk, sq_ct, sq_ex, evS_whl, evS_frs, evE_lc, bnd, sbnd, obnd, raw, res, resL, rawL, valsL, anyBor, opBin, opCmp, opBi, biAbs, biInt, biStr, biLen, biList, biSum, biMax, biMin, biAll, Itr.bk, putBack, itemsOf, hkGo, boolsOf, opNeg, opNot, ixD, slD, litD, atom, isD, D.share, shareL, D.isHole, D.whole, wholeL, D.noOw, noOwL, D.noSh, noShL, stIx, owAt, asB, setTg, putE, mutD, mtAppend, mtExtend, mtPop, mtClear, mtInsert, kill, List.foldl_cons, List.foldl_nil, List.getElem?_cons_zero, List.getElem?_cons_succ, List.getElem?_nil, List.set_cons_zero, List.set_cons_succ, List.length_cons, List.length_nil, Bool.and_true, Bool.true_and, Bool.and_false, Bool.false_and, Bool.not_true, Bool.not_false, cond_true, cond_false, if_true, if_false, ite_true, ite_false, reduceIte, reduceCtorEq, Bool.false_eq_true, startE, List.replicate, List.append_eq, List.nil_append, List.cons_append, List.append_nil, fin, TV.atI0, TV.atI1, Option.bind_some, Option.map_some, Bool.and_self, Bool.or_self, Nat.reduceSub, Nat.reduceAdd, Nat.reduceEqDiff, Bool.not_eq_true, Bool.and_eq_true, decide_true, decide_false, real_eq_int, real_eq_bl, real_eq_non, real_eq_enc, real_eq_enc2, eqD_int, eqD_bl, eqD_pair, Int.reduceEq, Int.reduceToNat, Int.reduceLE, Int.reduceLT, nab10, nab2, castn0, castn1, castn2, castn3, castn4, castn5, Nat.reduceLT, and_self, and_true, true_and, and_false, false_and, if_pos trivial, not_true_eq_false, not_false_eq_true, Bool.or_true, Bool.or_false, Bool.true_or, Bool.false_or, e1, a1, a2, a3, lr, z, e, c2, c4, eqq]
          · rw [decide_eq_false c3] at eqq
            unfold enc at *
            simp only [bodF, c_holds_up, nthS, S.bodyOf, evE_mv, evE_fr, evE_bo, evE_lit, evE_glb, evE_shr, evE_bin, evE_neg, evE_not, evE_and, evE_or, evE_cmp, evE_ix, evE_pth, evE_sl, evE_tup, evE_lst, evE_call, evE_bi, evE_isi, evE_pop, evE_lrv, evE_lrg, evEs_nil, evEs_cons, evEo_no, evEo_so, evC_no, evC_so, evIt_list, evIt_rg1, evIt_rg2, evIt_rg3, evIt_rev, evIt_zip, evIt_enum, evIt_str, evIt_brw, evIt_tupi, evS_asg, evS_unp, evS_par, evS_swp, evS_set1, evS_aug, evS_mut0, evS_ex, evS_ifs, evS_scn, evS_ret, evS_rse, evS_try1, evS_try2, evS_brk, evS_cnt, evS_pas, evS_kil, evSs_nil, evSs_cons, sq_nx, sq_rt, sq_bk, sq_ct, sq_ex, evS_whl, evS_frs, evE_lc, bnd, sbnd, obnd, raw, res, resL, rawL, valsL, anyBor, opBin, opCmp, opBi, biAbs, biInt, biStr, biLen, biList, biSum, biMax, biMin, biAll, Itr.bk, putBack, itemsOf, hkGo, boolsOf, opNeg, opNot, ixD, slD, litD, atom, isD, D.share, shareL, D.isHole, D.whole, wholeL, D.noOw, noOwL, D.noSh, noShL, stIx, owAt, asB, setTg, putE, mutD, mtAppend, mtExtend, mtPop, mtClear, mtInsert, kill, List.foldl_cons, List.foldl_nil, List.getElem?_cons_zero, List.getElem?_cons_succ, List.getElem?_nil, List.set_cons_zero, List.set_cons_succ, List.length_cons, List.length_nil, Bool.and_true, Bool.true_and, Bool.and_false, Bool.false_and, Bool.not_true, Bool.not_false, cond_true, cond_false, if_true, if_false, ite_true, ite_false, reduceIte, reduceCtorEq, Bool.false_eq_true, startE, List.replicate, List.append_eq, List.nil_append, List.cons_append, List.append_nil, fin, TV.atI0, TV.atI1, Option.bind_some, Option.map_some, Bool.and_self, Bool.or_self, Nat.reduceSub, Nat.reduceAdd, Nat.reduceEqDiff, Bool.not_eq_true, Bool.and_eq_true, decide_true, decide_false, real_eq_int, real_eq_bl, real_eq_non, real_eq_enc, real_eq_enc2, eqD_int, eqD_bl, eqD_pair, Int.reduceEq, Int.reduceToNat, Int.reduceLE, Int.reduceLT, nab10, nab2, castn0, castn1, castn2, castn3, castn4, castn5, Nat.reduceLT, and_self, and_true, true_and, and_false, false_and, if_pos trivial, not_true_eq_false, not_false_eq_true, Bool.or_true, Bool.or_false, Bool.true_or, Bool.false_or, e1, a1, a2, a3, lr, z, e, c2, c4, eqq]
    · have z : ¬ (k : Int) + 1 < (row.length : Int) := by omega
      rw [decide_eq_false c1, Bool.false_and, Bool.not_false, Bool.and_true]
      generalize row.map enc = l at *
      generalize pulls.map enc = l2 at *
      by_cases c2 : b.num < 0
      · rw [if_pos (by simp [c2])]
        unfold enc at *
        simp only [bodF, c_holds_up, nthS, S.bodyOf, evE_mv, evE_fr, evE_bo, evE_lit, evE_glb, evE_shr, evE_bin, evE_neg, evE_not, evE_and, evE_or, evE_cmp, evE_ix, evE_pth, evE_sl, evE_tup, evE_lst, evE_call, evE_bi, evE_isi, evE_pop, evE_lrv, evE_lrg, evEs_nil, evEs_cons, evEo_no, evEo_so, evC_no, evC_so, evIt_list, evIt_rg1, evIt_rg2, evIt_rg3, evIt_rev, evIt_zip, evIt_enum, evIt_str, evIt_brw, evIt_tupi, evS_asg, evS_unp, evS_par, evS_swp, evS_set1, evS_aug, evS_mut0, evS_ex, evS_ifs, evS_scn, evS_ret, evS_rse, evS_try1, evS_try2, evS_brk, evS_cnt, evS_pas, evS_kil, evSs_nil, evSs_cons, sq_nx, sq_rt, sq_bk, sq_ct, sq_ex, evS_whl, evS_frs, evE_lc, bnd, sbnd, obnd, raw, res, resL, rawL, valsL, anyBor, opBin, opCmp, opBi, biAbs, biInt, biStr, biLen, biList, biSum, biMax, biMin, biAll, Itr.bk, putBack, itemsOf, hkGo, boolsOf, opNeg, opNot, ixD, slD, litD, atom, isD, D.share, shareL, D.isHole, D.whole, wholeL, D.noOw, noOwL, D.noSh, noShL, stIx, owAt, asB, setTg, putE, mutD, mtAppend, mtExtend, mtPop, mtClear, mtInsert, kill, List.foldl_cons, List.foldl_nil, List.getElem?_cons_zero, List.getElem?_cons_succ, List.getElem?_nil, List.set_cons_zero, List.set_cons_succ, List.length_cons, List.length_nil, Bool.and_true, Bool.true_and, Bool.and_false, Bool.false_and, Bool.not_true, Bool.not_false, cond_true, cond_false, if_true, if_false, ite_true, ite_false, reduceIte, reduceCtorEq, Bool.false_eq_true, startE, List.replicate, List.append_eq, List.nil_append, List.cons_append, List.append_nil, fin, TV.atI0, TV.atI1, Option.bind_some, Option.map_some, Bool.and_self, Bool.or_self, Nat.reduceSub, Nat.reduceAdd, Nat.reduceEqDiff, Bool.not_eq_true, Bool.and_eq_true, decide_true, decide_false, real_eq_int, real_eq_bl, real_eq_non, real_eq_enc, real_eq_enc2, eqD_int, eqD_bl, eqD_pair, Int.reduceEq, Int.reduceToNat, Int.reduceLE, Int.reduceLT, nab10, nab2, castn0, castn1, castn2, castn3, castn4, castn5, Nat.reduceLT, and_self, and_true, true_and, and_false, false_and, if_pos trivial, not_true_eq_false, not_false_eq_true, Bool.or_true, Bool.or_false, Bool.true_or, Bool.false_or, e1, a1, a2, lr, z, e, c2]
      · by_cases c4 : 0 < b.num
        · rw [if_pos (by simp [c4])]
          unfold enc at *
          simp only [bodF, c_holds_up, nthS, S.bodyOf, evE_mv, evE_fr, evE_bo, evE_lit, evE_glb, evE_shr, evE_bin, evE_neg, evE_not, evE_and, evE_or, evE_cmp, evE_ix, evE_pth, evE_sl, evE_tup, evE_lst, evE_call, evE_bi, evE_isi, evE_pop, evE_lrv, evE_lrg, evEs_nil, evEs_cons, evEo_no, evEo_so, evC_no, evC_so, evIt_list, evIt_rg1, evIt_rg2, evIt_rg3, evIt_rev, evIt_zip, evIt_enum, evIt_str, evIt_brw, evIt_tupi, evS_asg, evS_unp, evS_par, evS_swp, evS_set1, evS_aug, evS_mut0, evS_ex, evS_ifs, evS_scn, evS_ret, evS_rse, evS_try1, evS_try2, evS_brk, evS_cnt, evS_pas, evS_kil, evSs_nil, evSs_cons, sq_nx, sq_rt, sq_bk, sq_ct, sq_ex, evS_whl, evS_frs, evE_lc, bnd, sbnd, obnd, raw, res, resL, rawL, valsL, anyBor, opBin, opCmp, opBi, biAbs, biInt, biStr, biLen, biList, biSum, biMax, biMin, biAll, Itr.bk, putBack, itemsOf, hkGo, boolsOf, opNeg, opNot, ixD, slD, litD, atom, isD, D.share, shareL, D.isHole, D.whole, wholeL, D.noOw, noOwL, D.noSh, noShL, stIx, owAt, asB, setTg, putE, mutD, mtAppend, mtExtend, mtPop, mtClear, mtInsert, kill, List.foldl_cons, List.foldl_nil, List.getElem?_cons_zero, List.getElem?_cons_succ, List.getElem?_nil, List.set_cons_zero, List.set_cons_succ, List.length_cons, List.length_nil, Bool.and_true, Bool.true_and, Bool.and_false, Bool.false_and, Bool.not_true, Bool.not_false, cond_true, cond_false, if_true, if_false, ite_true, ite_false, reduceIte, reduceCtorEq, Bool.false_eq_true, startE, List.replicate, List.append_eq, List.nil_append, List.cons_append, List.append_nil, fin, TV.atI0, TV.atI1, Option.bind_some, Option.map_some, Bool.and_self, Bool.or_self, Nat.reduceSub, Nat.reduceAdd, Nat.reduceEqDiff, Bool.not_eq_true, Bool.and_eq_true, decide_true, decide_false, real_eq_int, real_eq_bl, real_eq_non, real_eq_enc, real_eq_enc2, eqD_int, eqD_bl, eqD_pair, Int.reduceEq, Int.reduceToNat, Int.reduceLE, Int.reduceLT, nab10, nab2, castn0, castn1, castn2, castn3, castn4, castn5, Nat.reduceLT, and_self, and_true, true_and, and_false, false_and, if_pos trivial, not_true_eq_false, not_false_eq_true, Bool.or_true, Bool.or_false, Bool.true_or, Bool.false_or, e1, a1, a2, lr, z, e, c2, c4]
        · rw [if_neg (by simp [c2, c4])]
          unfold enc at *
          simp only [bodF, c_holds_up, nthS, S.bodyOf, evE_mv, evE_fr, evE_bo, evE_lit, evE_glb, evE_shr, evE_bin, evE_neg, evE_not, evE_and, evE_or, evE_cmp, evE_ix, evE_pth, evE_sl, evE_tup, evE_lst, evE_call, evE_bi, evE_isi, evE_pop, evE_lrv, evE_lrg, evEs_nil, evEs_cons, evEo_no, evEo_so, evC_no, evC_so, evIt_list, evIt_rg1, evIt_rg2, evIt_rg3, evIt_rev, evIt_zip, evIt_enum, evIt_str, evIt_brw, evIt_tupi, evS_asg, evS_unp, evS_par, evS_swp, evS_set1, evS_aug, evS_mut0, evS_ex, evS_ifs, evS_scn, evS_ret, evS_rse, evS_try1, evS_try2, evS_brk, evS_cnt, evS_pas, evS_kil, evSs_nil, evSs_cons, sq_nx, sq_rt, sq_bk, sq_ct, sq_ex, evS_whl, evS_frs, evE_lc, bnd, sbnd, obnd, raw, res, resL, rawL, valsL, anyBor, opBin, opCmp, opBi, biAbs, biInt, biStr, biLen, biList, biSum, biMax, biMin, biAll, Itr.bk, putBack, itemsOf, hkGo, boolsOf, opNeg, opNot, ixD, slD, litD, atom, isD, D.share, shareL, D.isHole, D.whole, wholeL, D.noOw, noOwL, D.noSh, noShL, stIx, owAt, asB, setTg, putE, mutD, mtAppend, mtExtend, mtPop, mtClear, mtInsert, kill, List.foldl_cons, List.foldl_nil, List.getElem?_cons_zero, List.getElem?_cons_succ, List.getElem?_nil, List.set_cons_zero, List.set_cons_succ, List.length_cons, List.length_nil, Bool.and_true, Bool.true_and, Bool.and_false, Bool.false_and, Bool.not_true, Bool.not_false, cond_true, cond_false, if_true, if_false, ite_true, ite_false, reduceIte, reduceCtorEq, Bool.false_eq_true, startE, List.replicate, List.append_eq, List.nil_append, List.cons_append, List.append_nil, fin, TV.atI0, TV.atI1, Option.bind_some, Option.map_some, Bool.and_self, Bool.or_self, Nat.reduceSub, Nat.reduceAdd, Nat.reduceEqDiff, Bool.not_eq_true, Bool.and_eq_true, decide_true, decide_false, real_eq_int, real_eq_bl, real_eq_non, real_eq_enc, real_eq_enc2, eqD_int, eqD_bl, eqD_pair, Int.reduceEq, Int.reduceToNat, Int.reduceLE, Int.reduceLT, nab10, nab2, castn0, castn1, castn2, castn3, castn4, castn5, Nat.reduceLT, and_self, and_true, true_and, and_false, false_and, if_pos trivial, not_true_eq_false, not_false_eq_true, Bool.or_true, Bool.or_false, Bool.true_or, Bool.false_or, e1, a1, a2, lr, z, e, c2, c4])
  have hit : evIt (ctx real exc glb T (n + 3)) (.rg1 (.bi .len (.cons (.bo 1) .nil))) [.lst .sh (row.map enc), .lst .sh (pulls.map enc), enc 0, .hole, .hole] = some (.ok ([], rgD 0 pulls.length 1) [.lst .sh (row.map enc), .lst .sh (pulls.map enc), enc 0, .hole, .hole]) :=
    rg1_of (t := .val (.int pulls.length)) (by simp only [evE_mv, evE_fr, evE_bo, evE_lit, evE_glb, evE_shr, evE_bin, evE_neg, evE_not, evE_and, evE_or, evE_cmp, evE_ix, evE_pth, evE_sl, evE_tup, evE_lst, evE_call, evE_bi, evE_isi, evE_pop, evE_lrv, evE_lrg, evEs_nil, evEs_cons, evEo_no, evEo_so, evC_no, evC_so, evIt_list, evIt_rg1, evIt_rg2, evIt_rg3, evIt_rev, evIt_zip, evIt_enum, evIt_str, evIt_brw, evIt_tupi, evS_asg, evS_unp, evS_par, evS_swp, evS_set1, evS_aug, evS_mut0, evS_ex, evS_ifs, evS_scn, evS_ret, evS_rse, evS_try1, evS_try2, evS_brk, evS_cnt, evS_pas, evS_kil, evSs_nil, evSs_cons, sq_nx, sq_rt, sq_bk, sq_ct, sq_ex, evS_whl, evS_frs, evE_lc, bnd, sbnd, obnd, raw, res, resL, rawL, valsL, anyBor, opBin, opCmp, opBi, biAbs, biInt, biStr, biLen, biList, biSum, biMax, biMin, biAll, Itr.bk, putBack, itemsOf, hkGo, boolsOf, opNeg, opNot, ixD, slD, litD, atom, isD, D.share, shareL, D.isHole, D.whole, wholeL, D.noOw, noOwL, D.noSh, noShL, stIx, owAt, asB, setTg, putE, mutD, mtAppend, mtExtend, mtPop, mtClear, mtInsert, kill, List.foldl_cons, List.foldl_nil, List.getElem?_cons_zero, List.getElem?_cons_succ, List.getElem?_nil, List.set_cons_zero, List.set_cons_succ, List.length_cons, List.length_nil, Bool.and_true, Bool.true_and, Bool.and_false, Bool.false_and, Bool.not_true, Bool.not_false, cond_true, cond_false, if_true, if_false, ite_true, ite_false, reduceIte, reduceCtorEq, Bool.false_eq_true, startE, List.replicate, List.append_eq, List.nil_append, List.cons_append, List.append_nil, fin, TV.atI0, TV.atI1, Option.bind_some, Option.map_some, Bool.and_self, Bool.or_self, Nat.reduceSub, Nat.reduceAdd, Nat.reduceEqDiff, Bool.not_eq_true, Bool.and_eq_true, decide_true, decide_false, real_eq_int, real_eq_bl, real_eq_non, real_eq_enc, real_eq_enc2, eqD_int, eqD_bl, eqD_pair, Int.reduceEq, Int.reduceToNat, Int.reduceLE, Int.reduceLT, nab10, nab2, castn0, castn1, castn2, castn3, castn4, castn5, Nat.reduceLT, and_self, and_true, true_and, and_false, false_and, if_pos trivial, not_true_eq_false, not_false_eq_true, Bool.or_true, Bool.or_false, Bool.true_or, Bool.false_or, lp, hr]) rfl (real_rng (by omega) (by omega))
  have e0 : evSs (ctx real exc glb T (n + 3)) (takeS 1 c_holds_up) [.lst .sh (row.map enc), .lst .sh (pulls.map enc), .hole, .hole, .hole] = some (.nx [.lst .sh (row.map enc), .lst .sh (pulls.map enc), enc 0, .hole, .hole]) := by
    simp only [c_holds_up, takeS, evE_mv, evE_fr, evE_bo, evE_lit, evE_glb, evE_shr, evE_bin, evE_neg, evE_not, evE_and, evE_or, evE_cmp, evE_ix, evE_pth, evE_sl, evE_tup, evE_lst, evE_call, evE_bi, evE_isi, evE_pop, evE_lrv, evE_lrg, evEs_nil, evEs_cons, evEo_no, evEo_so, evC_no, evC_so, evIt_list, evIt_rg1, evIt_rg2, evIt_rg3, evIt_rev, evIt_zip, evIt_enum, evIt_str, evIt_brw, evIt_tupi, evS_asg, evS_unp, evS_par, evS_swp, evS_set1, evS_aug, evS_mut0, evS_ex, evS_ifs, evS_scn, evS_ret, evS_rse, evS_try1, evS_try2, evS_brk, evS_cnt, evS_pas, evS_kil, evSs_nil, evSs_cons, sq_nx, sq_rt, sq_bk, sq_ct, sq_ex, evS_whl, evS_frs, evE_lc, bnd, sbnd, obnd, raw, res, resL, rawL, valsL, anyBor, opBin, opCmp, opBi, biAbs, biInt, biStr, biLen, biList, biSum, biMax, biMin, biAll, Itr.bk, putBack, itemsOf, hkGo, boolsOf, opNeg, opNot, ixD, slD, litD, atom, isD, D.share, shareL, D.isHole, D.whole, wholeL, D.noOw, noOwL, D.noSh, noShL, stIx, owAt, asB, setTg, putE, mutD, mtAppend, mtExtend, mtPop, mtClear, mtInsert, kill, List.foldl_cons, List.foldl_nil, List.getElem?_cons_zero, List.getElem?_cons_succ, List.getElem?_nil, List.set_cons_zero, List.set_cons_succ, List.length_cons, List.length_nil, Bool.and_true, Bool.true_and, Bool.and_false, Bool.false_and, Bool.not_true, Bool.not_false, cond_true, cond_false, if_true, if_false, ite_true, ite_false, reduceIte, reduceCtorEq, Bool.false_eq_true, startE, List.replicate, List.append_eq, List.nil_append, List.cons_append, List.append_nil, fin, TV.atI0, TV.atI1, Option.bind_some, Option.map_some, Bool.and_self, Bool.or_self, Nat.reduceSub, Nat.reduceAdd, Nat.reduceEqDiff, Bool.not_eq_true, Bool.and_eq_true, decide_true, decide_false, real_eq_int, real_eq_bl, real_eq_non, real_eq_enc, real_eq_enc2, eqD_int, eqD_bl, eqD_pair, Int.reduceEq, Int.reduceToNat, Int.reduceLE, Int.reduceLT, nab10, nab2, castn0, castn1, castn2, castn3, castn4, castn5, Nat.reduceLT, and_self, and_true, true_and, and_false, false_and, if_pos trivial, not_true_eq_false, not_false_eq_true, Bool.or_true, Bool.or_false, Bool.true_or, Bool.false_or]; rfl
  show fin (evSs (ctx real exc glb T (n + 3)) c_holds_up [.lst .sh (row.map enc), .lst .sh (pulls.map enc), .hole, .hole, .hole]) = _
  rw [evSs_split _ 1, e0, sq_nx]
  show fin (evSs (ctx real exc glb T (n + 3)) (.cons (.frs (.one 3) (.rg1 (.bi .len (.cons (.bo 1) .nil))) (nthS 1 c_holds_up).bodyOf) (dropS 2 c_holds_up)) _) = _
  rw [evSs_cons, evS_frs, hit]
  simp only [sbnd]
  have hloop : loopF (ctx real exc glb T (n + 3)) (.one 3) (nthS 1 c_holds_up).bodyOf (rgD 0 pulls.length 1) [.lst .sh (row.map enc), .lst .sh (pulls.map enc), enc 0, .hole, .hole] = _ := hloop
  rw [hloop]
  unfold holdsB
  cases scanQ (fun a k => a + pulls.getD k 0) (fun a k => decide (a.num < 0) || (decide (0 < a.num) && !levelOn row k)) (List.range pulls.length) 0 with
  | none => rfl
  | some a =>
    generalize row.map enc = l at *
    generalize pulls.map enc = l2 at *
    simp only [c_holds_up, dropS, evE_mv, evE_fr, evE_bo, evE_lit, evE_glb, evE_shr, evE_bin, evE_neg, evE_not, evE_and, evE_or, evE_cmp, evE_ix, evE_pth, evE_sl, evE_tup, evE_lst, evE_call, evE_bi, evE_isi, evE_pop, evE_lrv, evE_lrg, evEs_nil, evEs_cons, evEo_no, evEo_so, evC_no, evC_so, evIt_list, evIt_rg1, evIt_rg2, evIt_rg3, evIt_rev, evIt_zip, evIt_enum, evIt_str, evIt_brw, evIt_tupi, evS_asg, evS_unp, evS_par, evS_swp, evS_set1, evS_aug, evS_mut0, evS_ex, evS_ifs, evS_scn, evS_ret, evS_rse, evS_try1, evS_try2, evS_brk, evS_cnt, evS_pas, evS_kil, evSs_nil, evSs_cons, sq_nx, sq_rt, sq_bk, sq_ct, sq_ex, evS_whl, evS_frs, evE_lc, bnd, sbnd, obnd, raw, res, resL, rawL, valsL, anyBor, opBin, opCmp, opBi, biAbs, biInt, biStr, biLen, biList, biSum, biMax, biMin, biAll, Itr.bk, putBack, itemsOf, hkGo, boolsOf, opNeg, opNot, ixD, slD, litD, atom, isD, D.share, shareL, D.isHole, D.whole, wholeL, D.noOw, noOwL, D.noSh, noShL, stIx, owAt, asB, setTg, putE, mutD, mtAppend, mtExtend, mtPop, mtClear, mtInsert, kill, List.foldl_cons, List.foldl_nil, List.getElem?_cons_zero, List.getElem?_cons_succ, List.getElem?_nil, List.set_cons_zero, List.set_cons_succ, List.length_cons, List.length_nil, Bool.and_true, Bool.true_and, Bool.and_false, Bool.false_and, Bool.not_true, Bool.not_false, cond_true, cond_false, if_true, if_false, ite_true, ite_false, reduceIte, reduceCtorEq, Bool.false_eq_true, startE, List.replicate, List.append_eq, List.nil_append, List.cons_append, List.append_nil, fin, TV.atI0, TV.atI1, Option.bind_some, Option.map_some, Bool.and_self, Bool.or_self, Nat.reduceSub, Nat.reduceAdd, Nat.reduceEqDiff, Bool.not_eq_true, Bool.and_eq_true, decide_true, decide_false, real_eq_int, real_eq_bl, real_eq_non, real_eq_enc, real_eq_enc2, eqD_int, eqD_bl, eqD_pair, Int.reduceEq, Int.reduceToNat, Int.reduceLE, Int.reduceLT, nab10, nab2, castn0, castn1, castn2, castn3, castn4, castn5, Nat.reduceLT, and_self, and_true, true_and, and_false, false_and, if_pos trivial, not_true_eq_false, not_false_eq_true, Bool.or_true, Bool.or_false, Bool.true_or, Bool.false_or]
    rfl
end
end TV
namespace TV
open PySem PySem.Spec PyProof.Rows L2
theorem num_pos (c : Rat) : 0 < c.num ↔ 0 < c := by
  rw [Rat.lt_iff]
  have h0 : (0 : Rat).num = 0 := rfl
  have h1 : ((0 : Rat).den : Int) = 1 := rfl
  rw [h0, h1]
  omega
theorem num_neg (c : Rat) : c.num < 0 ↔ c < 0 := by
  rw [Rat.lt_iff]
  have h0 : (0 : Rat).num = 0 := rfl
  have h1 : ((0 : Rat).den : Int) = 1 := rfl
  rw [h0, h1]
  omega
theorem rat_tri (a b : Rat) : a < b ∨ a = b ∨ b < a := by
  by_cases h : a < b
  · exact .inl h
  · by_cases h2 : b < a
    · exact .inr (.inr h2)
    · exact .inr (.inl (Rat.le_antisymm (Rat.not_lt.mp h2) (Rat.not_lt.mp h)))
theorem divInt_ne0 {t b : Int} (ht : t ≠ 0) (hb : b ≠ 0) : Rat.divInt t b ≠ 0 := fun z => by
  have h := divInt_cross t b hb
  rw [z] at h
  have h0 : (0 : Rat).num = 0 := rfl
  have h1 : ((0 : Rat).den : Int) = 1 := rfl
  rw [h0, h1, Int.zero_mul, Int.mul_one] at h
  exact ht h.symm
theorem mul_lt_neg {a b c : Rat} (h : c < 0) : b * c < a * c ↔ a < b := by
  have h1 : a * -c < b * -c ↔ a < b := Rat.mul_lt_mul_right (by have := Rat.neg_lt_neg h; rwa [Rat.neg_zero] at this)
  rw [Rat.mul_neg, Rat.mul_neg, Rat.neg_lt_neg_iff] at h1
  exact h1
theorem fold_add : ∀ (qs : List Rat) (a : Rat), qs.foldl (fun a q => a + q) a = a + sumQ qs
  | [], a => (Rat.add_zero a).symm
  | q :: qs, a => by
    unfold sumQ
    rw [List.foldl_cons, List.foldl_cons, fold_add qs, fold_add qs, Rat.zero_add, Rat.add_assoc]
theorem sumQ_cons (q : Rat) (qs : List Rat) : sumQ (q :: qs) = q + sumQ qs := by
  unfold sumQ
  rw [List.foldl_cons, fold_add, Rat.zero_add]; rfl
theorem sumQ_app (ps qs : List Rat) : sumQ (ps ++ qs) = sumQ ps + sumQ qs := by
  unfold sumQ
  rw [List.foldl_append, fold_add]; rfl
theorem sumQ_one (q : Rat) : sumQ [q] = q := by rw [sumQ_cons]; exact Rat.add_zero q
theorem sumQ_rev : ∀ qs : List Rat, sumQ qs.reverse = sumQ qs
  | [] => rfl
  | q :: qs => by rw [List.reverse_cons, sumQ_app, sumQ_one, sumQ_cons, sumQ_rev qs, Rat.add_comm]
theorem sumQ_cut (qs : List Rat) (c : Nat) : sumQ (qs.take c) + sumQ (qs.drop c) = sumQ qs := by rw [← sumQ_app, List.take_append_drop]
theorem getD_app {qs : List Rat} {p : Rat} {k : Nat} (h : k < qs.length) : (qs ++ [p]).getD k 0 = qs.getD k 0 := by
  rw [List.getD_eq_getElem?_getD, List.getD_eq_getElem?_getD, List.getElem?_append_left h]
theorem last_getD {qs : List Rat} (h : 0 < qs.length) : qs.getLast? = some (qs.getD (qs.length - 1) 0) := by
  rw [List.getLast?_eq_getElem?, List.getD_eq_getElem?_getD, List.getElem?_eq_getElem (by omega)]; rfl
theorem atI_last (qs : List Rat) (h : 0 < qs.length) : atI (qs.map enc) (-1) = some (enc (qs.getD (qs.length - 1) 0)) := by
  rw [atI_neg1 _ (by intro z; rw [List.map_eq_nil_iff] at z; rw [z] at h; exact absurd h (by decide)), List.getLast?_map, last_getD h]; rfl
theorem cut_encs_take (qs : List Rat) (c : Nat) : TV.cutD (qs.map enc) none (some (c : Int)) = (qs.take c).map enc := by
  rw [cutD_take, List.map_take]
theorem cut_encs_drop (qs : List Rat) (c : Nat) : TV.cutD (qs.map enc) (some (c : Int)) none = (qs.drop c).map enc := by
  rw [cutD_drop, List.map_drop]
theorem filterMap_if {α β : Type} (f : α → β) (p : α → Bool) (l : List α) : l.filterMap (fun x => if p x then some (f x) else none) = (l.filter p).map f := by
  induction l with
  | nil => rfl
  | cons x l ih =>
    rw [List.filterMap_cons, List.filter_cons]
    cases h : p x with
    | true => simp [ih]
    | false => simp [ih]
theorem enc_rb {n : Nat} {t : Int} (h : Bd (n + 1) t) : Rb (n + 1) (t : Rat) := ⟨h, Nat.one_lt_two_pow (by omega)⟩
theorem if_one {C : TV.Ctx} {c : E} {s : S} {rest : Ss} {env e1 : TV.Env} (h : evE C c env = some (.ok (.val (.bl true)) env)) (hs : evS C s env = some (.nx e1)) : evSs C (.cons (.ifs c (.cons s .nil) .nil) rest) env = evSs C rest e1 := by
  rw [evSs_cons, evS_ifs, h]
  simp only [sbnd, asB, raw]
  rw [evSs_cons, hs, sq_nx, evSs_nil, sq_nx]
theorem scan_any {α β : Type} (f : α → β → α) (c : β → Bool) : ∀ (qs : List β) (a : α), scanQ f (fun _ q => c q) qs a = if qs.any c = true then none else some (qs.foldl f a)
  | [], a => rfl
  | q :: qs, a => by
    rw [scanQ, List.any_cons, List.foldl_cons]
    cases h : c q with
    | true => rfl
    | false =>
      rw [if_neg Bool.false_ne_true, Bool.false_or]
      exact scan_any f c qs (f a q)
theorem zip_at {α β : Type} (da : α) (db : β) {as : List α} {bs : List β} (h : as.length = bs.length) : as.zip bs = (List.range as.length).map fun k => (as.getD k da, bs.getD k db) := by
  rw [zip_range da db Prod.mk as bs h]
  exact (List.map_id' _).symm
theorem zip_any {α β : Type} (da : α) (db : β) {as : List α} {bs : List β} (h : as.length = bs.length) (f : α × β → Bool) : (as.zip bs).any f = (List.range as.length).any fun k => f (as.getD k da, bs.getD k db) := by
  rw [zip_at da db h, List.any_map]; rfl
theorem map_at {α β : Type} (da : α) (as : List α) (f : α → β) : as.map f = (List.range as.length).map fun k => f (as.getD k da) := by
  apply List.ext_getElem
  · simp
  · intro i h1 h2
    simp at h1
    simp [List.getElem?_eq_getElem, h1]
theorem getD_zip {α β : Type} (da : α) (db : β) {as : List α} {bs : List β} (h : as.length = bs.length) (k : Nat) : (as.zip bs).getD k (da, db) = (as.getD k da, bs.getD k db) := by
  simp only [List.getD_eq_getElem?_getD, List.getElem?_zip_eq_some, List.zip, List.getElem?_zipWith]
  by_cases hk : k < as.length
  · rw [List.getElem?_eq_getElem hk, List.getElem?_eq_getElem (by omega)]; rfl
  · rw [List.getElem?_eq_none (by omega), List.getElem?_eq_none (by omega)]; rfl
theorem rats_ext {ps qs : List Rat} (h : ps.length = qs.length) : ps = qs ↔ ∀ k, k < ps.length → ps.getD k 0 = qs.getD k 0 := by
  constructor
  · intro e k _; rw [e]
  · intro hk
    apply List.ext_getElem h
    intro i h1 h2
    have := hk i h1
    rw [List.getD_eq_getElem?_getD, List.getD_eq_getElem?_getD, List.getElem?_eq_getElem h1, List.getElem?_eq_getElem h2] at this
    exact this
end TV
namespace TV
open PySem PySem.Spec PyProof.Rows L2
def cellR (ns : List Int) (k : Nat) : Int := if k < ns.length then ns.getD k 0 else 5 * (k : Int) * k + 11 * k + 2
theorem cellR_bd {ns : List Int} (hns : ∀ c ∈ ns, Bd (2 ^ 20) c) (k : Nat) (hk : k ≤ 1000) : Bd (2 ^ 20) (cellR ns k) := by
  unfold cellR
  split
  · next h =>
    rw [List.getD_eq_getElem?_getD, List.getElem?_eq_getElem h]
    exact hns _ (List.getElem_mem h)
  · have kb : Bd 10 (k : Int) := Bd.of (by omega) (by omega)
    have h5 : Bd 3 5 := by decide
    have h9 : Bd 4 11 := by decide
    exact ((((h5.mul kb).mul kb).add (h9.mul kb)).add (m := 2) (by decide)).mono (by decide)
/-- how many heights are others than the one ahead -/
def stepsQ (row : List Rat) : Nat := (List.range (row.length - 1)).countP fun k => !decide (row.getD (k + 1) 0 = row.getD k 0)
theorem range_rev (m : Nat) : (List.range m).map (fun k => m - 1 - k) = (List.range m).reverse := by
  apply List.ext_getElem
  · simp
  · intro i h1 h2
    simp
theorem steps_rev (row : List Rat) : stepsQ row.reverse = stepsQ row := by
  unfold stepsQ
  rw [List.length_reverse]
  have e : (List.range (row.length - 1)).countP (fun k => !decide (row.reverse.getD (k + 1) 0 = row.reverse.getD k 0)) = (List.range (row.length - 1)).countP ((fun k => !decide (row.getD (k + 1) 0 = row.getD k 0)) ∘ fun k => row.length - 1 - 1 - k) := by
    refine List.countP_congr fun k hk => ?_
    have hk := List.mem_range.mp hk
    have g : ∀ j, j < row.length → row.reverse.getD j 0 = row.getD (row.length - 1 - j) 0 := fun j hj => by
      rw [List.getD_eq_getElem?_getD, List.getD_eq_getElem?_getD, List.getElem?_reverse hj]
    rw [g (k + 1) (by omega), g k (by omega)]
    show (!decide _) = true ↔ (!decide (row.getD (row.length - 1 - 1 - k + 1) 0 = row.getD (row.length - 1 - 1 - k) 0)) = true
    rw [show row.length - 1 - (k + 1) = row.length - 1 - 1 - k by omega, show row.length - 1 - k = row.length - 1 - 1 - k + 1 by omega]
    rw [decide_eq_decide.mpr (eq_comm (a := row.getD (row.length - 1 - 1 - k) 0) (b := row.getD (row.length - 1 - 1 - k + 1) 0))]
  rw [e, ← List.countP_map, range_rev, List.countP_reverse]
section
variable {exc : Xs} {glb : Str → Option D} {T : List Fn} {n : Nat}
theorem run_law_cell_2 (h : Has T f_law_cell_2) (kd : LK) (ns : List Int) (k : Nat) (hk : k ≤ 1000) : run real exc glb T (n + 1) "_law_cell" [.lst kd (ns.map D.int), .int (k : Int)] = some (.ok (.int (cellR ns k))) := by
  rw [run_eq (f := "_law_cell") (d := f_law_cell_2) h rfl]
  have hlen : (ns.map D.int).length = ns.length := List.length_map ..
  unfold cellR
  have kb : Bd 10 (k : Int) := Bd.of (by omega) (by omega)
  have m1 : real.mul 5 (k : Int) = true := mul_real (n := 3) (by decide) kb (by decide)
  have m2 : real.mul (5 * (k : Int)) (k : Int) = true := mul_real (n := 13) (Bd.of (by omega) (by omega)) kb (by decide)
  have m3 : real.mul 11 (k : Int) = true := mul_real (n := 4) (by decide) kb (by decide)
  by_cases hk : k < ns.length
  · have a := atI_ints ns k hk
    have z : (k : Int) < (ns.length : Int) := by omega
    simp only [c_law_cell_2, f_law_cell_2, evE_mv, evE_fr, evE_bo, evE_lit, evE_glb, evE_shr, evE_bin, evE_neg, evE_not, evE_and, evE_or, evE_cmp, evE_ix, evE_pth, evE_sl, evE_tup, evE_lst, evE_call, evE_bi, evE_isi, evE_pop, evE_lrv, evE_lrg, evEs_nil, evEs_cons, evEo_no, evEo_so, evC_no, evC_so, evIt_list, evIt_rg1, evIt_rg2, evIt_rg3, evIt_rev, evIt_zip, evIt_enum, evIt_str, evIt_brw, evIt_tupi, evS_asg, evS_unp, evS_par, evS_swp, evS_set1, evS_aug, evS_mut0, evS_ex, evS_ifs, evS_scn, evS_ret, evS_rse, evS_try1, evS_try2, evS_brk, evS_cnt, evS_pas, evS_kil, evSs_nil, evSs_cons, sq_nx, sq_rt, sq_bk, sq_ct, sq_ex, evS_whl, evS_frs, evE_lc, bnd, sbnd, obnd, raw, res, resL, rawL, valsL, anyBor, opBin, opCmp, opBi, biAbs, biInt, biStr, biLen, biList, biSum, biMax, biMin, biAll, Itr.bk, putBack, itemsOf, hkGo, boolsOf, opNeg, opNot, ixD, slD, litD, atom, isD, D.share, shareL, D.isHole, D.whole, wholeL, D.noOw, noOwL, D.noSh, noShL, stIx, owAt, asB, setTg, putE, mutD, mtAppend, mtExtend, mtPop, mtClear, mtInsert, kill, List.foldl_cons, List.foldl_nil, List.getElem?_cons_zero, List.getElem?_cons_succ, List.getElem?_nil, List.set_cons_zero, List.set_cons_succ, List.length_cons, List.length_nil, Bool.and_true, Bool.true_and, Bool.and_false, Bool.false_and, Bool.not_true, Bool.not_false, cond_true, cond_false, if_true, if_false, ite_true, ite_false, reduceIte, reduceCtorEq, Bool.false_eq_true, startE, List.replicate, List.append_eq, List.nil_append, List.cons_append, List.append_nil, fin, TV.atI0, TV.atI1, Option.bind_some, Option.map_some, Bool.and_self, Bool.or_self, Nat.reduceSub, Nat.reduceAdd, Nat.reduceEqDiff, Bool.not_eq_true, Bool.and_eq_true, decide_true, decide_false, real_eq_int, real_eq_bl, real_eq_non, real_eq_enc, real_eq_enc2, eqD_int, eqD_bl, eqD_pair, Int.reduceEq, Int.reduceToNat, Int.reduceLE, Int.reduceLT, nab10, nab2, castn0, castn1, castn2, castn3, castn4, castn5, Nat.reduceLT, and_self, and_true, true_and, and_false, false_and, if_pos trivial, not_true_eq_false, not_false_eq_true, Bool.or_true, Bool.or_false, Bool.true_or, Bool.false_or, hlen, z, a, hk]
  · have z : ¬ (k : Int) < (ns.length : Int) := by omega
    simp only [c_law_cell_2, f_law_cell_2, evE_mv, evE_fr, evE_bo, evE_lit, evE_glb, evE_shr, evE_bin, evE_neg, evE_not, evE_and, evE_or, evE_cmp, evE_ix, evE_pth, evE_sl, evE_tup, evE_lst, evE_call, evE_bi, evE_isi, evE_pop, evE_lrv, evE_lrg, evEs_nil, evEs_cons, evEo_no, evEo_so, evC_no, evC_so, evIt_list, evIt_rg1, evIt_rg2, evIt_rg3, evIt_rev, evIt_zip, evIt_enum, evIt_str, evIt_brw, evIt_tupi, evS_asg, evS_unp, evS_par, evS_swp, evS_set1, evS_aug, evS_mut0, evS_ex, evS_ifs, evS_scn, evS_ret, evS_rse, evS_try1, evS_try2, evS_brk, evS_cnt, evS_pas, evS_kil, evSs_nil, evSs_cons, sq_nx, sq_rt, sq_bk, sq_ct, sq_ex, evS_whl, evS_frs, evE_lc, bnd, sbnd, obnd, raw, res, resL, rawL, valsL, anyBor, opBin, opCmp, opBi, biAbs, biInt, biStr, biLen, biList, biSum, biMax, biMin, biAll, Itr.bk, putBack, itemsOf, hkGo, boolsOf, opNeg, opNot, ixD, slD, litD, atom, isD, D.share, shareL, D.isHole, D.whole, wholeL, D.noOw, noOwL, D.noSh, noShL, stIx, owAt, asB, setTg, putE, mutD, mtAppend, mtExtend, mtPop, mtClear, mtInsert, kill, List.foldl_cons, List.foldl_nil, List.getElem?_cons_zero, List.getElem?_cons_succ, List.getElem?_nil, List.set_cons_zero, List.set_cons_succ, List.length_cons, List.length_nil, Bool.and_true, Bool.true_and, Bool.and_false, Bool.false_and, Bool.not_true, Bool.not_false, cond_true, cond_false, if_true, if_false, ite_true, ite_false, reduceIte, reduceCtorEq, Bool.false_eq_true, startE, List.replicate, List.append_eq, List.nil_append, List.cons_append, List.append_nil, fin, TV.atI0, TV.atI1, Option.bind_some, Option.map_some, Bool.and_self, Bool.or_self, Nat.reduceSub, Nat.reduceAdd, Nat.reduceEqDiff, Bool.not_eq_true, Bool.and_eq_true, decide_true, decide_false, real_eq_int, real_eq_bl, real_eq_non, real_eq_enc, real_eq_enc2, eqD_int, eqD_bl, eqD_pair, Int.reduceEq, Int.reduceToNat, Int.reduceLE, Int.reduceLT, nab10, nab2, castn0, castn1, castn2, castn3, castn4, castn5, Nat.reduceLT, and_self, and_true, true_and, and_false, false_and, if_pos trivial, not_true_eq_false, not_false_eq_true, Bool.or_true, Bool.or_false, Bool.true_or, Bool.false_or, hlen, z, hk, m1, m2, m3]
theorem run_law_lowest_0 (h : Has T f_law_lowest_0) (t b : Int) (hb : 0 < b) : run real exc glb T (n + 1) "_law_lowest" [.int t, .int b] = some (.ok (enc (Rat.divInt t b))) := by
  rw [run_eq (f := "_law_lowest") (d := f_law_lowest_0) h rfl]
  obtain ⟨z, hz⟩ := gcd_loop23 (C := ctx real exc glb T n) (d0 := .int t) (d1 := .int b) b.natAbs (if t < 0 then -t else t) b (by split <;> omega) (by omega)
  have hz : loopW (ctx real exc glb T n) _ _ _ = _ := whP_of hz
  rw [gcd_absl] at hz
  obtain ⟨k1, k2, k3⟩ := low_by_hand t b hb
  simp only [c_law_lowest_0, f_law_lowest_0, evE_mv, evE_fr, evE_bo, evE_lit, evE_glb, evE_shr, evE_bin, evE_neg, evE_not, evE_and, evE_or, evE_cmp, evE_ix, evE_pth, evE_sl, evE_tup, evE_lst, evE_call, evE_bi, evE_isi, evE_pop, evE_lrv, evE_lrg, evEs_nil, evEs_cons, evEo_no, evEo_so, evC_no, evC_so, evIt_list, evIt_rg1, evIt_rg2, evIt_rg3, evIt_rev, evIt_zip, evIt_enum, evIt_str, evIt_brw, evIt_tupi, evS_asg, evS_unp, evS_par, evS_swp, evS_set1, evS_aug, evS_mut0, evS_ex, evS_ifs, evS_scn, evS_ret, evS_rse, evS_try1, evS_try2, evS_brk, evS_cnt, evS_pas, evS_kil, evSs_nil, evSs_cons, sq_nx, sq_rt, sq_bk, sq_ct, sq_ex, evS_whl, evS_frs, evE_lc, bnd, sbnd, obnd, raw, res, resL, rawL, valsL, anyBor, opBin, opCmp, opBi, biAbs, biInt, biStr, biLen, biList, biSum, biMax, biMin, biAll, Itr.bk, putBack, itemsOf, hkGo, boolsOf, opNeg, opNot, ixD, slD, litD, atom, isD, D.share, shareL, D.isHole, D.whole, wholeL, D.noOw, noOwL, D.noSh, noShL, stIx, owAt, asB, setTg, putE, mutD, mtAppend, mtExtend, mtPop, mtClear, mtInsert, kill, List.foldl_cons, List.foldl_nil, List.getElem?_cons_zero, List.getElem?_cons_succ, List.getElem?_nil, List.set_cons_zero, List.set_cons_succ, List.length_cons, List.length_nil, Bool.and_true, Bool.true_and, Bool.and_false, Bool.false_and, Bool.not_true, Bool.not_false, cond_true, cond_false, if_true, if_false, ite_true, ite_false, reduceIte, reduceCtorEq, Bool.false_eq_true, startE, List.replicate, List.append_eq, List.nil_append, List.cons_append, List.append_nil, fin, TV.atI0, TV.atI1, Option.bind_some, Option.map_some, Bool.and_self, Bool.or_self, Nat.reduceSub, Nat.reduceAdd, Nat.reduceEqDiff, Bool.not_eq_true, Bool.and_eq_true, decide_true, decide_false, real_eq_int, real_eq_bl, real_eq_non, real_eq_enc, real_eq_enc2, eqD_int, eqD_bl, eqD_pair, Int.reduceEq, Int.reduceToNat, Int.reduceLE, Int.reduceLT, nab10, nab2, castn0, castn1, castn2, castn3, castn4, castn5, Nat.reduceLT, and_self, and_true, true_and, and_false, false_and, if_pos trivial, not_true_eq_false, not_false_eq_true, Bool.or_true, Bool.or_false, Bool.true_or, Bool.false_or, hz, k1, k2, k3, enc]
theorem run_law_whole_1 (h : Has T f_law_whole_1) (i : Int) : run real exc glb T (n + 1) "_law_whole" [.int i] = some (.ok (.bl true)) := by
  rw [run_eq (f := "_law_whole") (d := f_law_whole_1) h rfl]
  simp only [c_law_whole_1, f_law_whole_1, evE_mv, evE_fr, evE_bo, evE_lit, evE_glb, evE_shr, evE_bin, evE_neg, evE_not, evE_and, evE_or, evE_cmp, evE_ix, evE_pth, evE_sl, evE_tup, evE_lst, evE_call, evE_bi, evE_isi, evE_pop, evE_lrv, evE_lrg, evEs_nil, evEs_cons, evEo_no, evEo_so, evC_no, evC_so, evIt_list, evIt_rg1, evIt_rg2, evIt_rg3, evIt_rev, evIt_zip, evIt_enum, evIt_str, evIt_brw, evIt_tupi, evS_asg, evS_unp, evS_par, evS_swp, evS_set1, evS_aug, evS_mut0, evS_ex, evS_ifs, evS_scn, evS_ret, evS_rse, evS_try1, evS_try2, evS_brk, evS_cnt, evS_pas, evS_kil, evSs_nil, evSs_cons, sq_nx, sq_rt, sq_bk, sq_ct, sq_ex, evS_whl, evS_frs, evE_lc, bnd, sbnd, obnd, raw, res, resL, rawL, valsL, anyBor, opBin, opCmp, opBi, biAbs, biInt, biStr, biLen, biList, biSum, biMax, biMin, biAll, Itr.bk, putBack, itemsOf, hkGo, boolsOf, opNeg, opNot, ixD, slD, litD, atom, isD, D.share, shareL, D.isHole, D.whole, wholeL, D.noOw, noOwL, D.noSh, noShL, stIx, owAt, asB, setTg, putE, mutD, mtAppend, mtExtend, mtPop, mtClear, mtInsert, kill, List.foldl_cons, List.foldl_nil, List.getElem?_cons_zero, List.getElem?_cons_succ, List.getElem?_nil, List.set_cons_zero, List.set_cons_succ, List.length_cons, List.length_nil, Bool.and_true, Bool.true_and, Bool.and_false, Bool.false_and, Bool.not_true, Bool.not_false, cond_true, cond_false, if_true, if_false, ite_true, ite_false, reduceIte, reduceCtorEq, Bool.false_eq_true, startE, List.replicate, List.append_eq, List.nil_append, List.cons_append, List.append_nil, fin, TV.atI0, TV.atI1, Option.bind_some, Option.map_some, Bool.and_self, Bool.or_self, Nat.reduceSub, Nat.reduceAdd, Nat.reduceEqDiff, Bool.not_eq_true, Bool.and_eq_true, decide_true, decide_false, real_eq_int, real_eq_bl, real_eq_non, real_eq_enc, real_eq_enc2, eqD_int, eqD_bl, eqD_pair, Int.reduceEq, Int.reduceToNat, Int.reduceLE, Int.reduceLT, nab10, nab2, castn0, castn1, castn2, castn3, castn4, castn5, Nat.reduceLT, and_self, and_true, true_and, and_false, false_and, if_pos trivial, not_true_eq_false, not_false_eq_true, Bool.or_true, Bool.or_false, Bool.true_or, Bool.false_or]
theorem run_law_fraction_1 (hw : Has T f_law_whole_1) (h : Has T f_law_fraction_1) (q : Rat) : run real exc glb T (n + 2) "_law_fraction" [enc q] = some (.ok (.bl true)) := by
  rw [run_eq (f := "_law_fraction") (d := f_law_fraction_1) h rfl]
  have e1 := run_law_whole_1 (exc := exc) (glb := glb) (n := n) hw q.num
  have e2 := run_law_whole_1 (exc := exc) (glb := glb) (n := n) hw (q.den : Int)
  unfold enc
  simp only [c_law_fraction_1, f_law_fraction_1, evE_mv, evE_fr, evE_bo, evE_lit, evE_glb, evE_shr, evE_bin, evE_neg, evE_not, evE_and, evE_or, evE_cmp, evE_ix, evE_pth, evE_sl, evE_tup, evE_lst, evE_call, evE_bi, evE_isi, evE_pop, evE_lrv, evE_lrg, evEs_nil, evEs_cons, evEo_no, evEo_so, evC_no, evC_so, evIt_list, evIt_rg1, evIt_rg2, evIt_rg3, evIt_rev, evIt_zip, evIt_enum, evIt_str, evIt_brw, evIt_tupi, evS_asg, evS_unp, evS_par, evS_swp, evS_set1, evS_aug, evS_mut0, evS_ex, evS_ifs, evS_scn, evS_ret, evS_rse, evS_try1, evS_try2, evS_brk, evS_cnt, evS_pas, evS_kil, evSs_nil, evSs_cons, sq_nx, sq_rt, sq_bk, sq_ct, sq_ex, evS_whl, evS_frs, evE_lc, bnd, sbnd, obnd, raw, res, resL, rawL, valsL, anyBor, opBin, opCmp, opBi, biAbs, biInt, biStr, biLen, biList, biSum, biMax, biMin, biAll, Itr.bk, putBack, itemsOf, hkGo, boolsOf, opNeg, opNot, ixD, slD, litD, atom, isD, D.share, shareL, D.isHole, D.whole, wholeL, D.noOw, noOwL, D.noSh, noShL, stIx, owAt, asB, setTg, putE, mutD, mtAppend, mtExtend, mtPop, mtClear, mtInsert, kill, List.foldl_cons, List.foldl_nil, List.getElem?_cons_zero, List.getElem?_cons_succ, List.getElem?_nil, List.set_cons_zero, List.set_cons_succ, List.length_cons, List.length_nil, Bool.and_true, Bool.true_and, Bool.and_false, Bool.false_and, Bool.not_true, Bool.not_false, cond_true, cond_false, if_true, if_false, ite_true, ite_false, reduceIte, reduceCtorEq, Bool.false_eq_true, startE, List.replicate, List.append_eq, List.nil_append, List.cons_append, List.append_nil, fin, TV.atI0, TV.atI1, Option.bind_some, Option.map_some, Bool.and_self, Bool.or_self, Nat.reduceSub, Nat.reduceAdd, Nat.reduceEqDiff, Bool.not_eq_true, Bool.and_eq_true, decide_true, decide_false, real_eq_int, real_eq_bl, real_eq_non, real_eq_enc, real_eq_enc2, eqD_int, eqD_bl, eqD_pair, Int.reduceEq, Int.reduceToNat, Int.reduceLE, Int.reduceLT, nab10, nab2, castn0, castn1, castn2, castn3, castn4, castn5, Nat.reduceLT, and_self, and_true, true_and, and_false, false_and, if_pos trivial, not_true_eq_false, not_false_eq_true, Bool.or_true, Bool.or_false, Bool.true_or, Bool.false_or, e1, e2]
/-- two costs put together -/
def joinQ (kind : Str) (a b : Rat) : Rat := if kind = "far" then (if a < b then b else a) else a + b
theorem run_joined (hc : Has T f_common_divisor) (hf : Has T f_fraction) (hp : Has T f_plus) (hl : Has T f_is_less) (h : Has T f_joined) (kind : Str) (hk : kind = "far" ∨ kind = "sum" ∨ kind = "square") {a b : Nat} {p q : Rat} (hp' : Rb a p) (hq : Rb b q) (hs : a + b ≤ 2 ^ 26) : run real exc glb T (n + 4) "joined" [.str kind, enc p, enc q] = some (.ok (enc (joinQ kind p q))) := by
  rw [run_eq (f := "joined") (d := f_joined) h rfl]
  have e1 := run_is_less (exc := exc) (glb := glb) (n := n + 2) hl hp' hq hs
  have e2 := run_plus (exc := exc) (glb := glb) (n := n) hc hf hp hp' hq hs
  have k1 : eqD (.str "far") (.str "far") = true := by decide +kernel
  have k2 : eqD (.str "sum") (.str "far") = false := by decide +kernel
  have k3 : eqD (.str "sum") (.str "sum") = true := by decide +kernel
  have k4 : eqD (.str "square") (.str "far") = false := by decide +kernel
  have k5 : eqD (.str "square") (.str "sum") = false := by decide +kernel
  have k6 : eqD (.str "square") (.str "square") = true := by decide +kernel
  have r1 : real.eq (.str "far") = true := by decide +kernel
  have r2 : real.eq (.str "sum") = true := by decide +kernel
  have r3 : real.eq (.str "square") = true := by decide +kernel
  unfold joinQ
  rcases hk with rfl | rfl | rfl
  · rw [if_pos rfl]
    by_cases c : p < q
    · rw [decide_eq_true c] at e1
      rw [if_pos c]
      clear e2
      unfold enc at *
      simp only [c_joined, f_joined, evE_mv, evE_fr, evE_bo, evE_lit, evE_glb, evE_shr, evE_bin, evE_neg, evE_not, evE_and, evE_or, evE_cmp, evE_ix, evE_pth, evE_sl, evE_tup, evE_lst, evE_call, evE_bi, evE_isi, evE_pop, evE_lrv, evE_lrg, evEs_nil, evEs_cons, evEo_no, evEo_so, evC_no, evC_so, evIt_list, evIt_rg1, evIt_rg2, evIt_rg3, evIt_rev, evIt_zip, evIt_enum, evIt_str, evIt_brw, evIt_tupi, evS_asg, evS_unp, evS_par, evS_swp, evS_set1, evS_aug, evS_mut0, evS_ex, evS_ifs, evS_scn, evS_ret, evS_rse, evS_try1, evS_try2, evS_brk, evS_cnt, evS_pas, evS_kil, evSs_nil, evSs_cons, sq_nx, sq_rt, sq_bk, sq_ct, sq_ex, evS_whl, evS_frs, evE_lc, bnd, sbnd, obnd, raw, res, resL, rawL, valsL, anyBor, opBin, opCmp, opBi, biAbs, biInt, biStr, biLen, biList, biSum, biMax, biMin, biAll, Itr.bk, putBack, itemsOf, hkGo, boolsOf, opNeg, opNot, ixD, slD, litD, atom, isD, D.share, shareL, D.isHole, D.whole, wholeL, D.noOw, noOwL, D.noSh, noShL, stIx, owAt, asB, setTg, putE, mutD, mtAppend, mtExtend, mtPop, mtClear, mtInsert, kill, List.foldl_cons, List.foldl_nil, List.getElem?_cons_zero, List.getElem?_cons_succ, List.getElem?_nil, List.set_cons_zero, List.set_cons_succ, List.length_cons, List.length_nil, Bool.and_true, Bool.true_and, Bool.and_false, Bool.false_and, Bool.not_true, Bool.not_false, cond_true, cond_false, if_true, if_false, ite_true, ite_false, reduceIte, reduceCtorEq, Bool.false_eq_true, startE, List.replicate, List.append_eq, List.nil_append, List.cons_append, List.append_nil, fin, TV.atI0, TV.atI1, Option.bind_some, Option.map_some, Bool.and_self, Bool.or_self, Nat.reduceSub, Nat.reduceAdd, Nat.reduceEqDiff, Bool.not_eq_true, Bool.and_eq_true, decide_true, decide_false, real_eq_int, real_eq_bl, real_eq_non, real_eq_enc, real_eq_enc2, eqD_int, eqD_bl, eqD_pair, Int.reduceEq, Int.reduceToNat, Int.reduceLE, Int.reduceLT, nab10, nab2, castn0, castn1, castn2, castn3, castn4, castn5, Nat.reduceLT, and_self, and_true, true_and, and_false, false_and, if_pos trivial, not_true_eq_false, not_false_eq_true, Bool.or_true, Bool.or_false, Bool.true_or, Bool.false_or, e1, k1, r1]
    · rw [decide_eq_false c] at e1
      rw [if_neg c]
      clear e2
      unfold enc at *
      simp only [c_joined, f_joined, evE_mv, evE_fr, evE_bo, evE_lit, evE_glb, evE_shr, evE_bin, evE_neg, evE_not, evE_and, evE_or, evE_cmp, evE_ix, evE_pth, evE_sl, evE_tup, evE_lst, evE_call, evE_bi, evE_isi, evE_pop, evE_lrv, evE_lrg, evEs_nil, evEs_cons, evEo_no, evEo_so, evC_no, evC_so, evIt_list, evIt_rg1, evIt_rg2, evIt_rg3, evIt_rev, evIt_zip, evIt_enum, evIt_str, evIt_brw, evIt_tupi, evS_asg, evS_unp, evS_par, evS_swp, evS_set1, evS_aug, evS_mut0, evS_ex, evS_ifs, evS_scn, evS_ret, evS_rse, evS_try1, evS_try2, evS_brk, evS_cnt, evS_pas, evS_kil, evSs_nil, evSs_cons, sq_nx, sq_rt, sq_bk, sq_ct, sq_ex, evS_whl, evS_frs, evE_lc, bnd, sbnd, obnd, raw, res, resL, rawL, valsL, anyBor, opBin, opCmp, opBi, biAbs, biInt, biStr, biLen, biList, biSum, biMax, biMin, biAll, Itr.bk, putBack, itemsOf, hkGo, boolsOf, opNeg, opNot, ixD, slD, litD, atom, isD, D.share, shareL, D.isHole, D.whole, wholeL, D.noOw, noOwL, D.noSh, noShL, stIx, owAt, asB, setTg, putE, mutD, mtAppend, mtExtend, mtPop, mtClear, mtInsert, kill, List.foldl_cons, List.foldl_nil, List.getElem?_cons_zero, List.getElem?_cons_succ, List.getElem?_nil, List.set_cons_zero, List.set_cons_succ, List.length_cons, List.length_nil, Bool.and_true, Bool.true_and, Bool.and_false, Bool.false_and, Bool.not_true, Bool.not_false, cond_true, cond_false, if_true, if_false, ite_true, ite_false, reduceIte, reduceCtorEq, Bool.false_eq_true, startE, List.replicate, List.append_eq, List.nil_append, List.cons_append, List.append_nil, fin, TV.atI0, TV.atI1, Option.bind_some, Option.map_some, Bool.and_self, Bool.or_self, Nat.reduceSub, Nat.reduceAdd, Nat.reduceEqDiff, Bool.not_eq_true, Bool.and_eq_true, decide_true, decide_false, real_eq_int, real_eq_bl, real_eq_non, real_eq_enc, real_eq_enc2, eqD_int, eqD_bl, eqD_pair, Int.reduceEq, Int.reduceToNat, Int.reduceLE, Int.reduceLT, nab10, nab2, castn0, castn1, castn2, castn3, castn4, castn5, Nat.reduceLT, and_self, and_true, true_and, and_false, false_and, if_pos trivial, not_true_eq_false, not_false_eq_true, Bool.or_true, Bool.or_false, Bool.true_or, Bool.false_or, e1, k1, r1]
  · rw [if_neg (by decide)]
    clear e1
    unfold enc at *
    simp only [c_joined, f_joined, evE_mv, evE_fr, evE_bo, evE_lit, evE_glb, evE_shr, evE_bin, evE_neg, evE_not, evE_and, evE_or, evE_cmp, evE_ix, evE_pth, evE_sl, evE_tup, evE_lst, evE_call, evE_bi, evE_isi, evE_pop, evE_lrv, evE_lrg, evEs_nil, evEs_cons, evEo_no, evEo_so, evC_no, evC_so, evIt_list, evIt_rg1, evIt_rg2, evIt_rg3, evIt_rev, evIt_zip, evIt_enum, evIt_str, evIt_brw, evIt_tupi, evS_asg, evS_unp, evS_par, evS_swp, evS_set1, evS_aug, evS_mut0, evS_ex, evS_ifs, evS_scn, evS_ret, evS_rse, evS_try1, evS_try2, evS_brk, evS_cnt, evS_pas, evS_kil, evSs_nil, evSs_cons, sq_nx, sq_rt, sq_bk, sq_ct, sq_ex, evS_whl, evS_frs, evE_lc, bnd, sbnd, obnd, raw, res, resL, rawL, valsL, anyBor, opBin, opCmp, opBi, biAbs, biInt, biStr, biLen, biList, biSum, biMax, biMin, biAll, Itr.bk, putBack, itemsOf, hkGo, boolsOf, opNeg, opNot, ixD, slD, litD, atom, isD, D.share, shareL, D.isHole, D.whole, wholeL, D.noOw, noOwL, D.noSh, noShL, stIx, owAt, asB, setTg, putE, mutD, mtAppend, mtExtend, mtPop, mtClear, mtInsert, kill, List.foldl_cons, List.foldl_nil, List.getElem?_cons_zero, List.getElem?_cons_succ, List.getElem?_nil, List.set_cons_zero, List.set_cons_succ, List.length_cons, List.length_nil, Bool.and_true, Bool.true_and, Bool.and_false, Bool.false_and, Bool.not_true, Bool.not_false, cond_true, cond_false, if_true, if_false, ite_true, ite_false, reduceIte, reduceCtorEq, Bool.false_eq_true, startE, List.replicate, List.append_eq, List.nil_append, List.cons_append, List.append_nil, fin, TV.atI0, TV.atI1, Option.bind_some, Option.map_some, Bool.and_self, Bool.or_self, Nat.reduceSub, Nat.reduceAdd, Nat.reduceEqDiff, Bool.not_eq_true, Bool.and_eq_true, decide_true, decide_false, real_eq_int, real_eq_bl, real_eq_non, real_eq_enc, real_eq_enc2, eqD_int, eqD_bl, eqD_pair, Int.reduceEq, Int.reduceToNat, Int.reduceLE, Int.reduceLT, nab10, nab2, castn0, castn1, castn2, castn3, castn4, castn5, Nat.reduceLT, and_self, and_true, true_and, and_false, false_and, if_pos trivial, not_true_eq_false, not_false_eq_true, Bool.or_true, Bool.or_false, Bool.true_or, Bool.false_or, e2, k2, k3, r1, r2, r3]
  · rw [if_neg (by decide)]
    clear e1
    unfold enc at *
    simp only [c_joined, f_joined, evE_mv, evE_fr, evE_bo, evE_lit, evE_glb, evE_shr, evE_bin, evE_neg, evE_not, evE_and, evE_or, evE_cmp, evE_ix, evE_pth, evE_sl, evE_tup, evE_lst, evE_call, evE_bi, evE_isi, evE_pop, evE_lrv, evE_lrg, evEs_nil, evEs_cons, evEo_no, evEo_so, evC_no, evC_so, evIt_list, evIt_rg1, evIt_rg2, evIt_rg3, evIt_rev, evIt_zip, evIt_enum, evIt_str, evIt_brw, evIt_tupi, evS_asg, evS_unp, evS_par, evS_swp, evS_set1, evS_aug, evS_mut0, evS_ex, evS_ifs, evS_scn, evS_ret, evS_rse, evS_try1, evS_try2, evS_brk, evS_cnt, evS_pas, evS_kil, evSs_nil, evSs_cons, sq_nx, sq_rt, sq_bk, sq_ct, sq_ex, evS_whl, evS_frs, evE_lc, bnd, sbnd, obnd, raw, res, resL, rawL, valsL, anyBor, opBin, opCmp, opBi, biAbs, biInt, biStr, biLen, biList, biSum, biMax, biMin, biAll, Itr.bk, putBack, itemsOf, hkGo, boolsOf, opNeg, opNot, ixD, slD, litD, atom, isD, D.share, shareL, D.isHole, D.whole, wholeL, D.noOw, noOwL, D.noSh, noShL, stIx, owAt, asB, setTg, putE, mutD, mtAppend, mtExtend, mtPop, mtClear, mtInsert, kill, List.foldl_cons, List.foldl_nil, List.getElem?_cons_zero, List.getElem?_cons_succ, List.getElem?_nil, List.set_cons_zero, List.set_cons_succ, List.length_cons, List.length_nil, Bool.and_true, Bool.true_and, Bool.and_false, Bool.false_and, Bool.not_true, Bool.not_false, cond_true, cond_false, if_true, if_false, ite_true, ite_false, reduceIte, reduceCtorEq, Bool.false_eq_true, startE, List.replicate, List.append_eq, List.nil_append, List.cons_append, List.append_nil, fin, TV.atI0, TV.atI1, Option.bind_some, Option.map_some, Bool.and_self, Bool.or_self, Nat.reduceSub, Nat.reduceAdd, Nat.reduceEqDiff, Bool.not_eq_true, Bool.and_eq_true, decide_true, decide_false, real_eq_int, real_eq_bl, real_eq_non, real_eq_enc, real_eq_enc2, eqD_int, eqD_bl, eqD_pair, Int.reduceEq, Int.reduceToNat, Int.reduceLE, Int.reduceLT, nab10, nab2, castn0, castn1, castn2, castn3, castn4, castn5, Nat.reduceLT, and_self, and_true, true_and, and_false, false_and, if_pos trivial, not_true_eq_false, not_false_eq_true, Bool.or_true, Bool.or_false, Bool.true_or, Bool.false_or, e2, k4, k5, k6, r1, r2, r3]
theorem run_steps_of (h : Has T f_steps_of) (row : List Rat) (h100 : row.length ≤ 100) : run real exc glb T (n + 1) "steps_of" [.lst .sh (row.map enc)] = some (.ok (.int (stepsQ row))) := by
  rw [run_eq (f := "steps_of") (d := f_steps_of) h rfl]
  have hcm := comp_all (C := ctx real exc glb T n) (elt := .fr 1) (tg := .one 1) (cond := .so (.cmp .NotEq (.ix (.bo 0) (.bo 1)) (.ix (.bo 0) (.bin .Sub (.bo 1) (.lit (.int 1)))))) (own := [1]) (fun k : Nat => D.int (1 + (k : Int) * 1)) (fun k => if !decide (row.getD (k + 1) 0 = row.getD k 0) then some (D.int (1 + (k : Int) * 1)) else none) [.lst .sh (row.map enc), .hole] (List.range (row.length - 1)) (fun k hk => by
    have hk := List.mem_range.mp hk
    refine ⟨[.lst .sh (row.map enc), .int (1 + (k : Int) * 1)], fun env henv => ?_, rfl⟩
    have a1 : atI (row.map enc) (1 + (k : Int) * 1) = some (enc (row.getD (k + 1) 0)) := by rw [show (1 : Int) + (k : Int) * 1 = ((k + 1 : Nat) : Int) by omega]; exact atI_encs row (k + 1) (by omega)
    have a2 : atI (row.map enc) (1 + (k : Int) * 1 - 1) = some (enc (row.getD k 0)) := by rw [show (1 : Int) + (k : Int) * 1 - 1 = (k : Int) by omega]; exact atI_encs row k (by omega)
    have q := eqD_enc (row.getD (k + 1) 0) (row.getD k 0)
    rw [lcF_at, henv]
    generalize row.getD (k + 1) 0 = x at *
    generalize row.getD k 0 = y at *
    generalize row.map enc = l at *
    generalize (1 : Int) + (k : Int) * 1 = i at *
    cases d : decide (x = y) <;> rw [d] at q <;> unfold enc at * <;> simp only [evE_mv, evE_fr, evE_bo, evE_lit, evE_glb, evE_shr, evE_bin, evE_neg, evE_not, evE_and, evE_or, evE_cmp, evE_ix, evE_pth, evE_sl, evE_tup, evE_lst, evE_call, evE_bi, evE_isi, evE_pop, evE_lrv, evE_lrg, evEs_nil, evEs_cons, evEo_no, evEo_so, evC_no, evC_so, evIt_list, evIt_rg1, evIt_rg2, evIt_rg3, evIt_rev, evIt_zip, evIt_enum, evIt_str, evIt_brw, evIt_tupi, evS_asg, evS_unp, evS_par, evS_swp, evS_set1, evS_aug, evS_mut0, evS_ex, evS_ifs, evS_scn, evS_ret, evS_rse, evS_try1, evS_try2, evS_brk, evS_cnt, evS_pas, evS_kil, evSs_nil, evSs_cons, sq_nx, sq_rt, sq_bk, sq_ct, sq_ex, evS_whl, evS_frs, evE_lc, bnd, sbnd, obnd, raw, res, resL, rawL, valsL, anyBor, opBin, opCmp, opBi, biAbs, biInt, biStr, biLen, biList, biSum, biMax, biMin, biAll, Itr.bk, putBack, itemsOf, hkGo, boolsOf, opNeg, opNot, ixD, slD, litD, atom, isD, D.share, shareL, D.isHole, D.whole, wholeL, D.noOw, noOwL, D.noSh, noShL, stIx, owAt, asB, setTg, putE, mutD, mtAppend, mtExtend, mtPop, mtClear, mtInsert, kill, List.foldl_cons, List.foldl_nil, List.getElem?_cons_zero, List.getElem?_cons_succ, List.getElem?_nil, List.set_cons_zero, List.set_cons_succ, List.length_cons, List.length_nil, Bool.and_true, Bool.true_and, Bool.and_false, Bool.false_and, Bool.not_true, Bool.not_false, cond_true, cond_false, if_true, if_false, ite_true, ite_false, reduceIte, reduceCtorEq, Bool.false_eq_true, startE, List.replicate, List.append_eq, List.nil_append, List.cons_append, List.append_nil, fin, TV.atI0, TV.atI1, Option.bind_some, Option.map_some, Bool.and_self, Bool.or_self, Nat.reduceSub, Nat.reduceAdd, Nat.reduceEqDiff, Bool.not_eq_true, Bool.and_eq_true, decide_true, decide_false, real_eq_int, real_eq_bl, real_eq_non, real_eq_enc, real_eq_enc2, eqD_int, eqD_bl, eqD_pair, Int.reduceEq, Int.reduceToNat, Int.reduceLE, Int.reduceLT, nab10, nab2, castn0, castn1, castn2, castn3, castn4, castn5, Nat.reduceLT, and_self, and_true, true_and, and_false, false_and, if_pos trivial, not_true_eq_false, not_false_eq_true, Bool.or_true, Bool.or_false, Bool.true_or, Bool.false_or, a1, a2, q]) [.lst .sh (row.map enc), .hole] rfl
  rw [filterMap_if (fun k : Nat => D.int (1 + (k : Int) * 1)) (fun k => !decide (row.getD (k + 1) 0 = row.getD k 0))] at hcm
  have lr : (row.map enc).length = row.length := List.length_map ..
  have hit : evIt (ctx real exc glb T n) (.rg2 (.lit (.int 1)) (.bi .len (.cons (.bo 0) .nil))) [.lst .sh (row.map enc), .hole] = some (.ok ([], rgD 1 (row.length - 1) 1) [.lst .sh (row.map enc), .hole]) := by
    have r := rg2_of (C := ctx real exc glb T n) (a := .lit (.int 1)) (b := .bi .len (.cons (.bo 0) .nil)) (env := [.lst .sh (row.map enc), .hole]) (e1 := [.lst .sh (row.map enc), .hole]) (e2 := [.lst .sh (row.map enc), .hole]) (t1 := .val (.int 1)) (t2 := .val (.int row.length)) (i := 1) (j := row.length) rfl (by simp only [evE_mv, evE_fr, evE_bo, evE_lit, evE_glb, evE_shr, evE_bin, evE_neg, evE_not, evE_and, evE_or, evE_cmp, evE_ix, evE_pth, evE_sl, evE_tup, evE_lst, evE_call, evE_bi, evE_isi, evE_pop, evE_lrv, evE_lrg, evEs_nil, evEs_cons, evEo_no, evEo_so, evC_no, evC_so, evIt_list, evIt_rg1, evIt_rg2, evIt_rg3, evIt_rev, evIt_zip, evIt_enum, evIt_str, evIt_brw, evIt_tupi, evS_asg, evS_unp, evS_par, evS_swp, evS_set1, evS_aug, evS_mut0, evS_ex, evS_ifs, evS_scn, evS_ret, evS_rse, evS_try1, evS_try2, evS_brk, evS_cnt, evS_pas, evS_kil, evSs_nil, evSs_cons, sq_nx, sq_rt, sq_bk, sq_ct, sq_ex, evS_whl, evS_frs, evE_lc, bnd, sbnd, obnd, raw, res, resL, rawL, valsL, anyBor, opBin, opCmp, opBi, biAbs, biInt, biStr, biLen, biList, biSum, biMax, biMin, biAll, Itr.bk, putBack, itemsOf, hkGo, boolsOf, opNeg, opNot, ixD, slD, litD, atom, isD, D.share, shareL, D.isHole, D.whole, wholeL, D.noOw, noOwL, D.noSh, noShL, stIx, owAt, asB, setTg, putE, mutD, mtAppend, mtExtend, mtPop, mtClear, mtInsert, kill, List.foldl_cons, List.foldl_nil, List.getElem?_cons_zero, List.getElem?_cons_succ, List.getElem?_nil, List.set_cons_zero, List.set_cons_succ, List.length_cons, List.length_nil, Bool.and_true, Bool.true_and, Bool.and_false, Bool.false_and, Bool.not_true, Bool.not_false, cond_true, cond_false, if_true, if_false, ite_true, ite_false, reduceIte, reduceCtorEq, Bool.false_eq_true, startE, List.replicate, List.append_eq, List.nil_append, List.cons_append, List.append_nil, fin, TV.atI0, TV.atI1, Option.bind_some, Option.map_some, Bool.and_self, Bool.or_self, Nat.reduceSub, Nat.reduceAdd, Nat.reduceEqDiff, Bool.not_eq_true, Bool.and_eq_true, decide_true, decide_false, real_eq_int, real_eq_bl, real_eq_non, real_eq_enc, real_eq_enc2, eqD_int, eqD_bl, eqD_pair, Int.reduceEq, Int.reduceToNat, Int.reduceLE, Int.reduceLT, nab10, nab2, castn0, castn1, castn2, castn3, castn4, castn5, Nat.reduceLT, and_self, and_true, true_and, and_false, false_and, if_pos trivial, not_true_eq_false, not_false_eq_true, Bool.or_true, Bool.or_false, Bool.true_or, Bool.false_or, lr]) rfl rfl (show real.rng 1 = true by decide +kernel) (real_rng (by omega) (by omega))
    rw [show ((row.length : Int) - 1).toNat = row.length - 1 by omega] at r
    exact r
  have r := lc_of hit (real_len (by rw [rgD_len]; omega)) hcm
  have hc : (((List.range (row.length - 1)).filter fun k => !decide (row.getD (k + 1) 0 = row.getD k 0)).map fun k : Nat => D.int (1 + (k : Int) * 1)).length = stepsQ row := by
    rw [List.length_map, ← List.countP_eq_length_filter]; rfl
  show fin (evSs (ctx real exc glb T n) (.cons (.ret (.bi .len (.cons (.lc (.fr 1) (.one 1) (.rg2 (.lit (.int 1)) (.bi .len (.cons (.bo 0) .nil))) (.so (.cmp .NotEq (.ix (.bo 0) (.bo 1)) (.ix (.bo 0) (.bin .Sub (.bo 1) (.lit (.int 1)))))) [1]) .nil))) .nil) [.lst .sh (row.map enc), .hole]) = _
  generalize ((List.range (row.length - 1)).filter fun k => !decide (row.getD (k + 1) 0 = row.getD k 0)).map (fun k : Nat => D.int (1 + (k : Int) * 1)) = l2 at *
  generalize row.map enc = l at *
  rw [evSs_cons, evS_ret, evE_bi, evEs_cons, r]
  simp only [evE_mv, evE_fr, evE_bo, evE_lit, evE_glb, evE_shr, evE_bin, evE_neg, evE_not, evE_and, evE_or, evE_cmp, evE_ix, evE_pth, evE_sl, evE_tup, evE_lst, evE_call, evE_bi, evE_isi, evE_pop, evE_lrv, evE_lrg, evEs_nil, evEs_cons, evEo_no, evEo_so, evC_no, evC_so, evIt_list, evIt_rg1, evIt_rg2, evIt_rg3, evIt_rev, evIt_zip, evIt_enum, evIt_str, evIt_brw, evIt_tupi, evS_asg, evS_unp, evS_par, evS_swp, evS_set1, evS_aug, evS_mut0, evS_ex, evS_ifs, evS_scn, evS_ret, evS_rse, evS_try1, evS_try2, evS_brk, evS_cnt, evS_pas, evS_kil, evSs_nil, evSs_cons, sq_nx, sq_rt, sq_bk, sq_ct, sq_ex, evS_whl, evS_frs, bnd, sbnd, obnd, raw, res, resL, rawL, valsL, anyBor, opBin, opCmp, opBi, biAbs, biInt, biStr, biLen, biList, biSum, biMax, biMin, biAll, Itr.bk, putBack, itemsOf, hkGo, boolsOf, opNeg, opNot, ixD, slD, litD, atom, isD, D.share, shareL, D.isHole, D.whole, wholeL, D.noOw, noOwL, D.noSh, noShL, stIx, owAt, asB, setTg, putE, mutD, mtAppend, mtExtend, mtPop, mtClear, mtInsert, kill, List.foldl_cons, List.foldl_nil, List.getElem?_cons_zero, List.getElem?_cons_succ, List.getElem?_nil, List.set_cons_zero, List.set_cons_succ, List.length_cons, List.length_nil, Bool.and_true, Bool.true_and, Bool.and_false, Bool.false_and, Bool.not_true, Bool.not_false, cond_true, cond_false, if_true, if_false, ite_true, ite_false, reduceIte, reduceCtorEq, Bool.false_eq_true, startE, List.replicate, List.append_eq, List.nil_append, List.cons_append, List.append_nil, fin, TV.atI0, TV.atI1, Option.bind_some, Option.map_some, Bool.and_self, Bool.or_self, Nat.reduceSub, Nat.reduceAdd, Nat.reduceEqDiff, Bool.not_eq_true, Bool.and_eq_true, decide_true, decide_false, real_eq_int, real_eq_bl, real_eq_non, real_eq_enc, real_eq_enc2, eqD_int, eqD_bl, eqD_pair, Int.reduceEq, Int.reduceToNat, Int.reduceLE, Int.reduceLT, nab10, nab2, castn0, castn1, castn2, castn3, castn4, castn5, Nat.reduceLT, and_self, and_true, true_and, and_false, false_and, if_pos trivial, not_true_eq_false, not_false_eq_true, Bool.or_true, Bool.or_false, Bool.true_or, Bool.false_or, hc]
end
end TV
namespace K62
open PySem PySem.Spec PyProof.Rows L2 TV
def top (i : Nat) : Stmt := PySem.Challenge.pw_leastmiss_k62_joined_and_steps.main.body.getD i (.Pass ⟨0, 0, 0, 0⟩)
abbrev c__law_cell : Ss := c_law_cell_2
abbrev f__law_cell : Fn := f_law_cell_2
abbrev c__law_lowest : Ss := c_law_lowest_0
abbrev f__law_lowest : Fn := f_law_lowest_0
abbrev c__law_whole : Ss := c_law_whole_1
abbrev f__law_whole : Fn := f_law_whole_1
abbrev c__law_fraction : Ss := c_law_fraction_1
abbrev f__law_fraction : Fn := f_law_fraction_1
def c__law_cost_by : Ss := (.cons (.ret (.call "_law_lowest" (.cons (.bin .Mod (.bin .Mult (.bi .abs (.cons (.bo 0) .nil)) (.lit (.int 48271))) (.bin .Pow (.lit (.int 10)) (.lit (.int 12)))) (.cons (.bin .Add (.lit (.int 1)) (.bin .Mod (.bin .Mult (.bi .abs (.cons (.bo 1) .nil)) (.lit (.int 16811))) (.lit (.int 999983)))) .nil)))) .nil)
def f__law_cost_by : Fn := ⟨"_law_cost_by", ["cell", "other"], 2, c__law_cost_by⟩
def c__law_refused : Ss := (.cons (.asg 3 (.lst .nil)) (.cons (.try2 (.cons (.ex (.call "joined" (.cons (.bo 0) (.cons (.bo 1) (.cons (.bo 2) .nil))))) .nil) "MissError" 4 [.set 3 [(false, "NoKind"), (false, "ValueError"), (false, "NoNumber"), (false, "NoMarks")]]) (.cons (.ret (.cmp .Eq (.bo 3) (.lst (.cons (.lit (.bl true)) (.cons (.lit (.bl true)) (.cons (.lit (.bl false)) (.cons (.lit (.bl false)) .nil))))))) .nil)))
def f__law_refused : Fn := ⟨"_law_refused", ["kind", "one", "other", "kinds", "e"], 3, c__law_refused⟩
def c__law_good : Ss := (.cons (.ret (.and (.call "_law_fraction" (.cons (.bo 0) .nil)) (.cmp .Eq (.bo 0) (.bo 1)))) .nil)
def f__law_good : Fn := ⟨"_law_good", ["found", "due"], 2, c__law_good⟩
def c__law_joined : Ss := (.cons (.asg 3 (.fr 0)) (.cons (.ifs (.cmp .Lt (.bin .Mult (.ix (.bo 0) (.lit (.int 0))) (.ix (.bo 1) (.lit (.int 1)))) (.bin .Mult (.ix (.bo 1) (.lit (.int 0))) (.ix (.bo 0) (.lit (.int 1))))) (.cons (.asg 3 (.fr 1)) .nil) .nil) (.cons (.asg 4 (.call "_law_lowest" (.cons (.bin .Add (.bin .Mult (.ix (.bo 0) (.lit (.int 0))) (.ix (.bo 1) (.lit (.int 1)))) (.bin .Mult (.ix (.bo 1) (.lit (.int 0))) (.ix (.bo 0) (.lit (.int 1))))) (.cons (.bin .Mult (.ix (.bo 0) (.lit (.int 1))) (.ix (.bo 1) (.lit (.int 1)))) .nil)))) (.cons (.asg 5 (.lst (.cons (.lit (.str "")) (.cons (.lit (.str "Far")) (.cons (.lit (.str "sums")) (.cons (.lit (.str "squar")) (.cons (.lit (.str "far ")) (.cons (.lit .non) (.cons (.lit (.int 1)) (.cons (.tup (.cons (.lit (.str "sum")) .nil)) (.cons (.lit (.bl true)) (.cons (.lit (.str "FAR")) (.cons (.lit (.str "square\n")) (.cons (.shr (.lst (.cons (.lit (.str "sum")) .nil))) (.cons (.lit .dct) .nil))))))))))))))) (.cons (.asg 5 (.ix (.bo 5) (.bin .Mod (.bo 2) (.lit (.int 13))))) (.cons (.ifs (.or (.not (.call "_law_good" (.cons (.call "joined" (.cons (.lit (.str "far")) (.cons (.bo 0) (.cons (.bo 1) .nil)))) (.cons (.bo 3) .nil)))) (.not (.call "_law_good" (.cons (.call "joined" (.cons (.lit (.str "far")) (.cons (.bo 1) (.cons (.bo 0) .nil)))) (.cons (.bo 3) .nil))))) (.cons (.ret (.lit (.bl false))) .nil) .nil) (.cons (.ifs (.or (.not (.call "_law_good" (.cons (.call "joined" (.cons (.lit (.str "sum")) (.cons (.bo 0) (.cons (.bo 1) .nil)))) (.cons (.bo 4) .nil)))) (.not (.call "_law_good" (.cons (.call "joined" (.cons (.lit (.str "square")) (.cons (.bo 0) (.cons (.bo 1) .nil)))) (.cons (.bo 4) .nil))))) (.cons (.ret (.lit (.bl false))) .nil) .nil) (.cons (.ret (.call "_law_refused" (.cons (.bo 5) (.cons (.bo 0) (.cons (.bo 1) .nil))))) .nil))))))))
def f__law_joined : Fn := ⟨"_law_joined", ["one", "other", "cell", "due", "both", "odd"], 3, c__law_joined⟩
def c_law : Ss := (.cons (.frs (.one 1) (.rg3 (.lit (.int 0)) (.bi .max (.cons (.lit (.int 3)) (.cons (.bi .min (.cons (.bi .len (.cons (.bo 0) .nil)) (.cons (.lit (.int 60)) .nil))) .nil))) (.lit (.int 3))) (.cons (.asg 6 (.lc (.call "_law_cell" (.cons (.bo 0) (.cons (.bin .Add (.bo 1) (.bo 10)) .nil))) (.one 10) (.rg1 (.lit (.int 3))) .no [10])) (.cons (.asg 7 (.call "_law_cost_by" (.cons (.ix (.bo 6) (.lit (.int 0))) (.cons (.ix (.bo 6) (.lit (.int 2))) .nil)))) (.cons (.asg 8 (.call "_law_cost_by" (.cons (.ix (.bo 6) (.lit (.int 1))) (.cons (.bin .FloorDiv (.ix (.bo 6) (.lit (.int 2))) (.lit (.int 7))) .nil)))) (.cons (.ifs (.cmp .Eq (.bin .Mod (.ix (.bo 6) (.lit (.int 2))) (.lit (.int 4))) (.lit (.int 1))) (.cons (.asg 8 (.fr 7)) .nil) .nil) (.cons (.ifs (.not (.call "_law_joined" (.cons (.bo 7) (.cons (.bo 8) (.cons (.bin .FloorDiv (.ix (.bo 6) (.lit (.int 2))) (.lit (.int 4))) .nil))))) (.cons (.ret (.lit (.bl false))) .nil) .nil) (.cons (.kil [1, 6, 7, 8, 10]) .nil))))))) (.cons (.kil [1, 6, 7, 8, 10]) (.cons (.asg 2 (.lc (.call "_law_lowest" (.cons (.bin .Sub (.bin .Mod (.bin .FloorDiv (.call "_law_cell" (.cons (.bo 0) (.cons (.bo 1) .nil))) (.bin .Add (.lit (.int 1)) (.bin .Mod (.bo 1) (.lit (.int 3))))) (.lit (.int 3))) (.lit (.int 1))) (.cons (.lit (.int 2)) .nil))) (.one 1) (.rg1 (.bi .max (.cons (.lit (.int 1)) (.cons (.bi .min (.cons (.bi .len (.cons (.bo 0) .nil)) (.cons (.lit (.int 60)) .nil))) .nil)))) .no [1])) (.cons (.asg 3 (.lit (.int 0))) (.cons (.frs (.one 1) (.rg2 (.lit (.int 1)) (.bi .len (.cons (.bo 2) .nil))) (.cons (.asg 3 (.bin .Add (.bo 3) (.bi .int (.cons (.cmp .NotEq (.ix (.bo 2) (.bo 1)) (.ix (.bo 2) (.bin .Sub (.bo 1) (.lit (.int 1))))) .nil)))) (.cons (.kil [1]) .nil))) (.cons (.kil [1]) (.cons (.asg 4 (.bi .list (.cons (.bo 2) .nil))) (.cons (.frs (.one 5) (.list (.lst (.cons (.fr 4) (.cons (.shr (.lrv (.bo 2))) .nil)))) (.cons (.asg 9 (.call "steps_of" (.cons (.bo 5) .nil))) (.cons (.ifs (.or (.not (.call "_law_whole" (.cons (.bo 9) .nil))) (.cmp .NotEq (.bo 9) (.bo 3))) (.cons (.ret (.lit (.bl false))) .nil) .nil) (.cons (.kil [5, 9]) .nil)))) (.cons (.kil [5, 9]) (.cons (.ret (.cmp .Eq (.bo 4) (.bo 2))) .nil))))))))))
def f_law : Fn := ⟨"law", ["script", "k", "row", "due", "handed", "some", "cells", "one", "other", "found", "j"], 1, c_law⟩
def T : List Fn := [f_common_divisor, f_fraction, f_plus, f_is_less, f_joined, f_steps_of, f__law_cell, f__law_lowest, f__law_whole, f__law_fraction, f__law_cost_by, f__law_refused, f__law_good, f__law_joined, f_law]
def S : List Stmt := [top 6, top 7, top 8, top 9, top 11, top 13, top 15, top 16, top 17, top 18, top 19, top 20, top 21, top 22, top 23]
def exs : Exs := ⟨[("MissError", "MissError"), ("NoNumber", "NoNumber"), ("NoKind", "NoKind"), ("NoKind", "MissError"), ("NoNumber", "MissError")], [("NoKind", "NoKind", true), ("NoKind", "NoMarks", false), ("NoKind", "NoNumber", false), ("NoKind", "ValueError", true), ("NoNumber", "NoKind", false), ("NoNumber", "NoMarks", false), ("NoNumber", "NoNumber", true), ("NoNumber", "ValueError", true)]⟩
def gl : List (Str × D) := []
theorem dok_common_divisor : DOk T (fun x => excOf exs x x) f_common_divisor (top 6) := ⟨by decide +kernel, by decide +kernel, fun _ _ _ _ _ _ us hl => match us, hl with | [_, _], _ => rfl⟩
theorem dok_fraction : DOk T (fun x => excOf exs x x) f_fraction (top 7) := ⟨by decide +kernel, by decide +kernel, fun _ _ _ _ _ _ us hl => match us, hl with | [_, _], _ => rfl⟩
theorem dok_plus : DOk T (fun x => excOf exs x x) f_plus (top 8) := ⟨by decide +kernel, by decide +kernel, fun _ _ _ _ _ _ us hl => match us, hl with | [_, _], _ => rfl⟩
theorem dok_is_less : DOk T (fun x => excOf exs x x) f_is_less (top 9) := ⟨by decide +kernel, by decide +kernel, fun _ _ _ _ _ _ us hl => match us, hl with | [_, _], _ => rfl⟩
theorem dok_joined : DOk T (fun x => excOf exs x x) f_joined (top 11) := ⟨by decide +kernel, by decide +kernel, fun _ _ _ _ _ _ us hl => match us, hl with | [_, _, _], _ => rfl⟩
theorem dok_steps_of : DOk T (fun x => excOf exs x x) f_steps_of (top 13) := ⟨by decide +kernel, by decide +kernel, fun _ _ _ _ _ _ us hl => match us, hl with | [_], _ => rfl⟩
theorem dok__law_cell : DOk T (fun x => excOf exs x x) f__law_cell (top 15) := ⟨by decide +kernel, by decide +kernel, fun _ _ _ _ _ _ us hl => match us, hl with | [_, _], _ => rfl⟩
theorem dok__law_lowest : DOk T (fun x => excOf exs x x) f__law_lowest (top 16) := ⟨by decide +kernel, by decide +kernel, fun _ _ _ _ _ _ us hl => match us, hl with | [_, _], _ => rfl⟩
theorem dok__law_whole : DOk T (fun x => excOf exs x x) f__law_whole (top 17) := ⟨by decide +kernel, by decide +kernel, fun _ _ _ _ _ _ us hl => match us, hl with | [_], _ => rfl⟩
theorem dok__law_fraction : DOk T (fun x => excOf exs x x) f__law_fraction (top 18) := ⟨by decide +kernel, by decide +kernel, fun _ _ _ _ _ _ us hl => match us, hl with | [_], _ => rfl⟩
theorem dok__law_cost_by : DOk T (fun x => excOf exs x x) f__law_cost_by (top 19) := ⟨by decide +kernel, by decide +kernel, fun _ _ _ _ _ _ us hl => match us, hl with | [_, _], _ => rfl⟩
theorem dok__law_refused : DOk T (fun x => excOf exs x x) f__law_refused (top 20) := ⟨by decide +kernel, by decide +kernel, fun _ _ _ _ _ _ us hl => match us, hl with | [_, _, _], _ => rfl⟩
theorem dok__law_good : DOk T (fun x => excOf exs x x) f__law_good (top 21) := ⟨by decide +kernel, by decide +kernel, fun _ _ _ _ _ _ us hl => match us, hl with | [_, _], _ => rfl⟩
theorem dok__law_joined : DOk T (fun x => excOf exs x x) f__law_joined (top 22) := ⟨by decide +kernel, by decide +kernel, fun _ _ _ _ _ _ us hl => match us, hl with | [_, _, _], _ => rfl⟩
theorem dok_law : DOk T (fun x => excOf exs x x) f_law (top 23) := ⟨by decide +kernel, by decide +kernel, fun _ _ _ _ _ _ us hl => match us, hl with | [_], _ => rfl⟩
theorem doks : DOks T (fun x => excOf exs x x) T S := .cons dok_common_divisor (.cons dok_fraction (.cons dok_plus (.cons dok_is_less (.cons dok_joined (.cons dok_steps_of (.cons dok__law_cell (.cons dok__law_lowest (.cons dok__law_whole (.cons dok__law_fraction (.cons dok__law_cost_by (.cons dok__law_refused (.cons dok__law_good (.cons dok__law_joined (.cons dok_law .nil))))))))))))))
abbrev RR : PySem.W.OpenRow := PySem.W.OpenLaw.row PySem.Challenge.rw_leastmiss_k62_joined_and_steps
abbrev hk : PySem.W.Hook := He.hookX 4 (faOf T exs) (fnOf T S) [] [] (moreB gl exs)
def ob (s : PySem.W.SharedT) : He.AlX := He.obsX 4 (faOf T exs) (fnOf T S) [] [] (moreB gl exs) (HandSHeadRun.getT s)
theorem ob_eq (s : PySem.W.SharedT) : ob s = hk.obs s.abs := He.obsX_eq (HandSHeadRun.getT_eq s)
def loose0 : List PySem.Str := ["MissError", "NoNumber", "NoMarks", "NoKind", "common_divisor", "fraction", "plus", "is_less", "joined", "steps_of", "_law_cell", "_law_lowest", "_law_whole", "_law_fraction", "_law_cost_by", "_law_refused", "_law_good", "_law_joined"]
def loose : List PySem.Str := loose0
theorem run_top (w : World) : HandSHeadRun.RunEq RR (PySem.W.view RR.prog [23]) hk ob 3000 loose w := by
  intro os
  kernel_rfl
noncomputable abbrev runL (n : Nat) : Str → List D → Option CRes := run real (excOf exs) (fun x => gl.lookup x) T n
end K62
open PySem PySem.W PySem.Calls PyProof.Rows in
theorem K62.ends (lev : Nat) (hr : L2.Room (lev + TV.lvl) callerA) (hlaw : ∀ ns : List Int, ns.length ≤ 63 → (∀ z ∈ ns, Builtin.Int.intBits z ≤ 1048576) → K62.runL lev "law" [.lst .fz (ns.map TV.D.int)] = some (.ok (.bl true))) : PySem.Challenge.rw_leastmiss_k62_joined_and_steps.Holds := by
  w_on; o_law
  refine HandSHeadRun.head_any (r := OpenLaw.row PySem.Challenge.rw_leastmiss_k62_joined_and_steps) (q := view (OpenLaw.row PySem.Challenge.rw_leastmiss_k62_joined_and_steps).prog [23]) (H := K62.hk) (ob := K62.ob) (M := 3000) (loose := K62.loose) (d := HandSHeadRun.topDef (OpenLaw.row PySem.Challenge.rw_leastmiss_k62_joined_and_steps).prog 23) (kwd := []) K62.ob_eq
    (by kernel_rfl) (fun s => by kernel_rfl) K62.run_top (by kernel_rfl) (by kernel_rfl) (by kernel_rfl) (by rfl) (by first | assumption | decide +kernel) (by decide +kernel) ⟨rfl, rfl, rfl, rfl, rfl, by decide +kernel⟩ ?hw ?hc
  case hw => w_witness2
  case hc =>
    have e : (HandSHeadRun.topDef (OpenLaw.row PySem.Challenge.rw_leastmiss_k62_joined_and_steps).prog 23).name = ("law" : PySem.Str) := by kernel_rfl
    refine TV.walk_tv (l := PySem.Challenge.rw_leastmiss_k62_joined_and_steps) (n := 63) (dl := K62.f_law) (lev := lev) (S := K62.S) rfl (by decide) (by kernel_rfl) hr (by kernel_rfl) rfl K62.doks (by rw [e]; kernel_rfl) rfl (fun ns h1 h2 => by rw [e]; exact hlaw ns h1 h2) 4
namespace K62
open PySem PySem.Spec PyProof.Rows L2 TV
noncomputable abbrev Cn (n : Nat) : TV.Ctx := ctx real (excOf exs) (fun x => gl.lookup x) T n
section
variable {n : Nat}
theorem low (t b : Int) (hb : 0 < b) : run real (excOf exs) (fun x => gl.lookup x) T (n + 1) "_law_lowest" [.int t, .int b] = some (.ok (enc (Rat.divInt t b))) := run_law_lowest_0 rfl t b hb
abbrev oddL : List D := [.str "", .str "Far", .str "sums", .str "squar", .str "far ", .non, .int 1, .tup [.str "sum"], .bl true, .str "FAR", .str "square\n", .lst .sh [.str "sum"], .dct]
theorem joined_odd (d : D) (hd : d ∈ oddL) (p q : Rat) : run real (excOf exs) (fun x => gl.lookup x) T (n + 1) "joined" [d, enc p, enc q] = some (.ex "NoKind") := by
  rw [run_eq (f := "joined") (d := f_joined) rfl rfl]
  have r1 : real.eq (.str "far") = true := by decide +kernel
  have r2 : real.eq (.str "sum") = true := by decide +kernel
  have r3 : real.eq (.str "square") = true := by decide +kernel
  unfold enc
  simp only [oddL, List.mem_cons, List.not_mem_nil, or_false] at hd
  rcases hd with rfl | rfl | rfl | rfl | rfl | rfl | rfl | rfl | rfl | rfl | rfl | rfl | rfl
  · have k0 : eqD (.str "") (.str "far") = false := by decide +kernel
    have k1 : eqD (.str "") (.str "sum") = false := by decide +kernel
    have k2 : eqD (.str "") (.str "square") = false := by decide +kernel
    have r0 : real.eq (.str "") = true := by decide +kernel
    simp only [c_joined, f_joined, evE_mv, evE_fr, evE_bo, evE_lit, evE_glb, evE_shr, evE_bin, evE_neg, evE_not, evE_and, evE_or, evE_cmp, evE_ix, evE_pth, evE_sl, evE_tup, evE_lst, evE_call, evE_bi, evE_isi, evE_pop, evE_lrv, evE_lrg, evEs_nil, evEs_cons, evEo_no, evEo_so, evC_no, evC_so, evIt_list, evIt_rg1, evIt_rg2, evIt_rg3, evIt_rev, evIt_zip, evIt_enum, evIt_str, evIt_brw, evIt_tupi, evS_asg, evS_unp, evS_par, evS_swp, evS_set1, evS_aug, evS_mut0, evS_ex, evS_ifs, evS_scn, evS_ret, evS_rse, evS_try1, evS_try2, evS_brk, evS_cnt, evS_pas, evS_kil, evSs_nil, evSs_cons, sq_nx, sq_rt, sq_bk, sq_ct, sq_ex, evS_whl, evS_frs, evE_lc, bnd, sbnd, obnd, raw, res, resL, rawL, valsL, anyBor, opBin, opCmp, opBi, biAbs, biInt, biStr, biLen, biList, biSum, biMax, biMin, biAll, Itr.bk, putBack, itemsOf, hkGo, boolsOf, opNeg, opNot, ixD, slD, litD, atom, isD, D.share, shareL, D.isHole, D.whole, wholeL, D.noOw, noOwL, D.noSh, noShL, stIx, owAt, asB, setTg, putE, mutD, mtAppend, mtExtend, mtPop, mtClear, mtInsert, kill, List.foldl_cons, List.foldl_nil, List.getElem?_cons_zero, List.getElem?_cons_succ, List.getElem?_nil, List.set_cons_zero, List.set_cons_succ, List.length_cons, List.length_nil, Bool.and_true, Bool.true_and, Bool.and_false, Bool.false_and, Bool.not_true, Bool.not_false, cond_true, cond_false, if_true, if_false, ite_true, ite_false, reduceIte, reduceCtorEq, Bool.false_eq_true, startE, List.replicate, List.append_eq, List.nil_append, List.cons_append, List.append_nil, fin, TV.atI0, TV.atI1, Option.bind_some, Option.map_some, Bool.and_self, Bool.or_self, Nat.reduceSub, Nat.reduceAdd, Nat.reduceEqDiff, Bool.not_eq_true, Bool.and_eq_true, decide_true, decide_false, real_eq_int, real_eq_bl, real_eq_non, real_eq_enc, real_eq_enc2, eqD_int, eqD_bl, eqD_pair, Int.reduceEq, Int.reduceToNat, Int.reduceLE, Int.reduceLT, nab10, nab2, castn0, castn1, castn2, castn3, castn4, castn5, Nat.reduceLT, and_self, and_true, true_and, and_false, false_and, if_pos trivial, not_true_eq_false, not_false_eq_true, Bool.or_true, Bool.or_false, Bool.true_or, Bool.false_or, r1, r2, r3, k0, k1, k2, r0]
  · have k0 : eqD (.str "Far") (.str "far") = false := by decide +kernel
    have k1 : eqD (.str "Far") (.str "sum") = false := by decide +kernel
    have k2 : eqD (.str "Far") (.str "square") = false := by decide +kernel
    have r0 : real.eq (.str "Far") = true := by decide +kernel
    simp only [c_joined, f_joined, evE_mv, evE_fr, evE_bo, evE_lit, evE_glb, evE_shr, evE_bin, evE_neg, evE_not, evE_and, evE_or, evE_cmp, evE_ix, evE_pth, evE_sl, evE_tup, evE_lst, evE_call, evE_bi, evE_isi, evE_pop, evE_lrv, evE_lrg, evEs_nil, evEs_cons, evEo_no, evEo_so, evC_no, evC_so, evIt_list, evIt_rg1, evIt_rg2, evIt_rg3, evIt_rev, evIt_zip, evIt_enum, evIt_str, evIt_brw, evIt_tupi, evS_asg, evS_unp, evS_par, evS_swp, evS_set1, evS_aug, evS_mut0, evS_ex, evS_ifs, evS_scn, evS_ret, evS_rse, evS_try1, evS_try2, evS_brk, evS_cnt, evS_pas, evS_kil, evSs_nil, evSs_cons, sq_nx, sq_rt, sq_bk, sq_ct, sq_ex, evS_whl, evS_frs, evE_lc, bnd, sbnd, obnd, raw, res, resL, rawL, valsL, anyBor, opBin, opCmp, opBi, biAbs, biInt, biStr, biLen, biList, biSum, biMax, biMin, biAll, Itr.bk, putBack, itemsOf, hkGo, boolsOf, opNeg, opNot, ixD, slD, litD, atom, isD, D.share, shareL, D.isHole, D.whole, wholeL, D.noOw, noOwL, D.noSh, noShL, stIx, owAt, asB, setTg, putE, mutD, mtAppend, mtExtend, mtPop, mtClear, mtInsert, kill, List.foldl_cons, List.foldl_nil, List.getElem?_cons_zero, List.getElem?_cons_succ, List.getElem?_nil, List.set_cons_zero, List.set_cons_succ, List.length_cons, List.length_nil, Bool.and_true, Bool.true_and, Bool.and_false, Bool.false_and, Bool.not_true, Bool.not_false, cond_true, cond_false, if_true, if_false, ite_true, ite_false, reduceIte, reduceCtorEq, Bool.false_eq_true, startE, List.replicate, List.append_eq, List.nil_append, List.cons_append, List.append_nil, fin, TV.atI0, TV.atI1, Option.bind_some, Option.map_some, Bool.and_self, Bool.or_self, Nat.reduceSub, Nat.reduceAdd, Nat.reduceEqDiff, Bool.not_eq_true, Bool.and_eq_true, decide_true, decide_false, real_eq_int, real_eq_bl, real_eq_non, real_eq_enc, real_eq_enc2, eqD_int, eqD_bl, eqD_pair, Int.reduceEq, Int.reduceToNat, Int.reduceLE, Int.reduceLT, nab10, nab2, castn0, castn1, castn2, castn3, castn4, castn5, Nat.reduceLT, and_self, and_true, true_and, and_false, false_and, if_pos trivial, not_true_eq_false, not_false_eq_true, Bool.or_true, Bool.or_false, Bool.true_or, Bool.false_or, r1, r2, r3, k0, k1, k2, r0]
  · have k0 : eqD (.str "sums") (.str "far") = false := by decide +kernel
    have k1 : eqD (.str "sums") (.str "sum") = false := by decide +kernel
    have k2 : eqD (.str "sums") (.str "square") = false := by decide +kernel
    have r0 : real.eq (.str "sums") = true := by decide +kernel
    simp only [c_joined, f_joined, evE_mv, evE_fr, evE_bo, evE_lit, evE_glb, evE_shr, evE_bin, evE_neg, evE_not, evE_and, evE_or, evE_cmp, evE_ix, evE_pth, evE_sl, evE_tup, evE_lst, evE_call, evE_bi, evE_isi, evE_pop, evE_lrv, evE_lrg, evEs_nil, evEs_cons, evEo_no, evEo_so, evC_no, evC_so, evIt_list, evIt_rg1, evIt_rg2, evIt_rg3, evIt_rev, evIt_zip, evIt_enum, evIt_str, evIt_brw, evIt_tupi, evS_asg, evS_unp, evS_par, evS_swp, evS_set1, evS_aug, evS_mut0, evS_ex, evS_ifs, evS_scn, evS_ret, evS_rse, evS_try1, evS_try2, evS_brk, evS_cnt, evS_pas, evS_kil, evSs_nil, evSs_cons, sq_nx, sq_rt, sq_bk, sq_ct, sq_ex, evS_whl, evS_frs, evE_lc, bnd, sbnd, obnd, raw, res, resL, rawL, valsL, anyBor, opBin, opCmp, opBi, biAbs, biInt, biStr, biLen, biList, biSum, biMax, biMin, biAll, Itr.bk, putBack, itemsOf, hkGo, boolsOf, opNeg, opNot, ixD, slD, litD, atom, isD, D.share, shareL, D.isHole, D.whole, wholeL, D.noOw, noOwL, D.noSh, noShL, stIx, owAt, asB, setTg, putE, mutD, mtAppend, mtExtend, mtPop, mtClear, mtInsert, kill, List.foldl_cons, List.foldl_nil, List.getElem?_cons_zero, List.getElem?_cons_succ, List.getElem?_nil, List.set_cons_zero, List.set_cons_succ, List.length_cons, List.length_nil, Bool.and_true, Bool.true_and, Bool.and_false, Bool.false_and, Bool.not_true, Bool.not_false, cond_true, cond_false, if_true, if_false, ite_true, ite_false, reduceIte, reduceCtorEq, Bool.false_eq_true, startE, List.replicate, List.append_eq, List.nil_append, List.cons_append, List.append_nil, fin, TV.atI0, TV.atI1, Option.bind_some, Option.map_some, Bool.and_self, Bool.or_self, Nat.reduceSub, Nat.reduceAdd, Nat.reduceEqDiff, Bool.not_eq_true, Bool.and_eq_true, decide_true, decide_false, real_eq_int, real_eq_bl, real_eq_non, real_eq_enc, real_eq_enc2, eqD_int, eqD_bl, eqD_pair, Int.reduceEq, Int.reduceToNat, Int.reduceLE, Int.reduceLT, nab10, nab2, castn0, castn1, castn2, castn3, castn4, castn5, Nat.reduceLT, and_self, and_true, true_and, and_false, false_and, if_pos trivial, not_true_eq_false, not_false_eq_true, Bool.or_true, Bool.or_false, Bool.true_or, Bool.false_or, r1, r2, r3, k0, k1, k2, r0]
  · have k0 : eqD (.str "squar") (.str "far") = false := by decide +kernel
    have k1 : eqD (.str "squar") (.str "sum") = false := by decide +kernel
    have k2 : eqD (.str "squar") (.str "square") = false := by decide +kernel
    have r0 : real.eq (.str "squar") = true := by decide +kernel
    simp only [c_joined, f_joined, evE_mv, evE_fr, evE_bo, evE_lit, evE_glb, evE_shr, evE_bin, evE_neg, evE_not, evE_and, evE_or, evE_cmp, evE_ix, evE_pth, evE_sl, evE_tup, evE_lst, evE_call, evE_bi, evE_isi, evE_pop, evE_lrv, evE_lrg, evEs_nil, evEs_cons, evEo_no, evEo_so, evC_no, evC_so, evIt_list, evIt_rg1, evIt_rg2, evIt_rg3, evIt_rev, evIt_zip, evIt_enum, evIt_str, evIt_brw, evIt_tupi, evS_asg, evS_unp, evS_par, evS_swp, evS_set1, evS_aug, evS_mut0, evS_ex, evS_ifs, evS_scn, evS_ret, evS_rse, evS_try1, evS_try2, evS_brk, evS_cnt, evS_pas, evS_kil, evSs_nil, evSs_cons, sq_nx, sq_rt, sq_bk, sq_ct, sq_ex, evS_whl, evS_frs, evE_lc, bnd, sbnd, obnd, raw, res, resL, rawL, valsL, anyBor, opBin, opCmp, opBi, biAbs, biInt, biStr, biLen, biList, biSum, biMax, biMin, biAll, Itr.bk, putBack, itemsOf, hkGo, boolsOf, opNeg, opNot, ixD, slD, litD, atom, isD, D.share, shareL, D.isHole, D.whole, wholeL, D.noOw, noOwL, D.noSh, noShL, stIx, owAt, asB, setTg, putE, mutD, mtAppend, mtExtend, mtPop, mtClear, mtInsert, kill, List.foldl_cons, List.foldl_nil, List.getElem?_cons_zero, List.getElem?_cons_succ, List.getElem?_nil, List.set_cons_zero, List.set_cons_succ, List.length_cons, List.length_nil, Bool.and_true, Bool.true_and, Bool.and_false, Bool.false_and, Bool.not_true, Bool.not_false, cond_true, cond_false, if_true, if_false, ite_true, ite_false, reduceIte, reduceCtorEq, Bool.false_eq_true, startE, List.replicate, List.append_eq, List.nil_append, List.cons_append, List.append_nil, fin, TV.atI0, TV.atI1, Option.bind_some, Option.map_some, Bool.and_self, Bool.or_self, Nat.reduceSub, Nat.reduceAdd, Nat.reduceEqDiff, Bool.not_eq_true, Bool.and_eq_true, decide_true, decide_false, real_eq_int, real_eq_bl, real_eq_non, real_eq_enc, real_eq_enc2, eqD_int, eqD_bl, eqD_pair, Int.reduceEq, Int.reduceToNat, Int.reduceLE, Int.reduceLT, nab10, nab2, castn0, castn1, castn2, castn3, castn4, castn5, Nat.reduceLT, and_self, and_true, true_and, and_false, false_and, if_pos trivial, not_true_eq_false, not_false_eq_true, Bool.or_true, Bool.or_false, Bool.true_or, Bool.false_or, r1, r2, r3, k0, k1, k2, r0]
  · have k0 : eqD (.str "far ") (.str "far") = false := by decide +kernel
    have k1 : eqD (.str "far ") (.str "sum") = false := by decide +kernel
    have k2 : eqD (.str "far ") (.str "square") = false := by decide +kernel
    have r0 : real.eq (.str "far ") = true := by decide +kernel
    simp only [c_joined, f_joined, evE_mv, evE_fr, evE_bo, evE_lit, evE_glb, evE_shr, evE_bin, evE_neg, evE_not, evE_and, evE_or, evE_cmp, evE_ix, evE_pth, evE_sl, evE_tup, evE_lst, evE_call, evE_bi, evE_isi, evE_pop, evE_lrv, evE_lrg, evEs_nil, evEs_cons, evEo_no, evEo_so, evC_no, evC_so, evIt_list, evIt_rg1, evIt_rg2, evIt_rg3, evIt_rev, evIt_zip, evIt_enum, evIt_str, evIt_brw, evIt_tupi, evS_asg, evS_unp, evS_par, evS_swp, evS_set1, evS_aug, evS_mut0, evS_ex, evS_ifs, evS_scn, evS_ret, evS_rse, evS_try1, evS_try2, evS_brk, evS_cnt, evS_pas, evS_kil, evSs_nil, evSs_cons, sq_nx, sq_rt, sq_bk, sq_ct, sq_ex, evS_whl, evS_frs, evE_lc, bnd, sbnd, obnd, raw, res, resL, rawL, valsL, anyBor, opBin, opCmp, opBi, biAbs, biInt, biStr, biLen, biList, biSum, biMax, biMin, biAll, Itr.bk, putBack, itemsOf, hkGo, boolsOf, opNeg, opNot, ixD, slD, litD, atom, isD, D.share, shareL, D.isHole, D.whole, wholeL, D.noOw, noOwL, D.noSh, noShL, stIx, owAt, asB, setTg, putE, mutD, mtAppend, mtExtend, mtPop, mtClear, mtInsert, kill, List.foldl_cons, List.foldl_nil, List.getElem?_cons_zero, List.getElem?_cons_succ, List.getElem?_nil, List.set_cons_zero, List.set_cons_succ, List.length_cons, List.length_nil, Bool.and_true, Bool.true_and, Bool.and_false, Bool.false_and, Bool.not_true, Bool.not_false, cond_true, cond_false, if_true, if_false, ite_true, ite_false, reduceIte, reduceCtorEq, Bool.false_eq_true, startE, List.replicate, List.append_eq, List.nil_append, List.cons_append, List.append_nil, fin, TV.atI0, TV.atI1, Option.bind_some, Option.map_some, Bool.and_self, Bool.or_self, Nat.reduceSub, Nat.reduceAdd, Nat.reduceEqDiff, Bool.not_eq_true, Bool.and_eq_true, decide_true, decide_false, real_eq_int, real_eq_bl, real_eq_non, real_eq_enc, real_eq_enc2, eqD_int, eqD_bl, eqD_pair, Int.reduceEq, Int.reduceToNat, Int.reduceLE, Int.reduceLT, nab10, nab2, castn0, castn1, castn2, castn3, castn4, castn5, Nat.reduceLT, and_self, and_true, true_and, and_false, false_and, if_pos trivial, not_true_eq_false, not_false_eq_true, Bool.or_true, Bool.or_false, Bool.true_or, Bool.false_or, r1, r2, r3, k0, k1, k2, r0]
  · have k0 : eqD (.non) (.str "far") = false := by decide +kernel
    have k1 : eqD (.non) (.str "sum") = false := by decide +kernel
    have k2 : eqD (.non) (.str "square") = false := by decide +kernel
    have r0 : real.eq (.non) = true := by decide +kernel
    simp only [c_joined, f_joined, evE_mv, evE_fr, evE_bo, evE_lit, evE_glb, evE_shr, evE_bin, evE_neg, evE_not, evE_and, evE_or, evE_cmp, evE_ix, evE_pth, evE_sl, evE_tup, evE_lst, evE_call, evE_bi, evE_isi, evE_pop, evE_lrv, evE_lrg, evEs_nil, evEs_cons, evEo_no, evEo_so, evC_no, evC_so, evIt_list, evIt_rg1, evIt_rg2, evIt_rg3, evIt_rev, evIt_zip, evIt_enum, evIt_str, evIt_brw, evIt_tupi, evS_asg, evS_unp, evS_par, evS_swp, evS_set1, evS_aug, evS_mut0, evS_ex, evS_ifs, evS_scn, evS_ret, evS_rse, evS_try1, evS_try2, evS_brk, evS_cnt, evS_pas, evS_kil, evSs_nil, evSs_cons, sq_nx, sq_rt, sq_bk, sq_ct, sq_ex, evS_whl, evS_frs, evE_lc, bnd, sbnd, obnd, raw, res, resL, rawL, valsL, anyBor, opBin, opCmp, opBi, biAbs, biInt, biStr, biLen, biList, biSum, biMax, biMin, biAll, Itr.bk, putBack, itemsOf, hkGo, boolsOf, opNeg, opNot, ixD, slD, litD, atom, isD, D.share, shareL, D.isHole, D.whole, wholeL, D.noOw, noOwL, D.noSh, noShL, stIx, owAt, asB, setTg, putE, mutD, mtAppend, mtExtend, mtPop, mtClear, mtInsert, kill, List.foldl_cons, List.foldl_nil, List.getElem?_cons_zero, List.getElem?_cons_succ, List.getElem?_nil, List.set_cons_zero, List.set_cons_succ, List.length_cons, List.length_nil, Bool.and_true, Bool.true_and, Bool.and_false, Bool.false_and, Bool.not_true, Bool.not_false, cond_true, cond_false, if_true, if_false, ite_true, ite_false, reduceIte, reduceCtorEq, Bool.false_eq_true, startE, List.replicate, List.append_eq, List.nil_append, List.cons_append, List.append_nil, fin, TV.atI0, TV.atI1, Option.bind_some, Option.map_some, Bool.and_self, Bool.or_self, Nat.reduceSub, Nat.reduceAdd, Nat.reduceEqDiff, Bool.not_eq_true, Bool.and_eq_true, decide_true, decide_false, real_eq_int, real_eq_bl, real_eq_non, real_eq_enc, real_eq_enc2, eqD_int, eqD_bl, eqD_pair, Int.reduceEq, Int.reduceToNat, Int.reduceLE, Int.reduceLT, nab10, nab2, castn0, castn1, castn2, castn3, castn4, castn5, Nat.reduceLT, and_self, and_true, true_and, and_false, false_and, if_pos trivial, not_true_eq_false, not_false_eq_true, Bool.or_true, Bool.or_false, Bool.true_or, Bool.false_or, r1, r2, r3, k0, k1, k2, r0]
  · have k0 : eqD (.int 1) (.str "far") = false := by decide +kernel
    have k1 : eqD (.int 1) (.str "sum") = false := by decide +kernel
    have k2 : eqD (.int 1) (.str "square") = false := by decide +kernel
    have r0 : real.eq (.int 1) = true := by decide +kernel
    simp only [c_joined, f_joined, evE_mv, evE_fr, evE_bo, evE_lit, evE_glb, evE_shr, evE_bin, evE_neg, evE_not, evE_and, evE_or, evE_cmp, evE_ix, evE_pth, evE_sl, evE_tup, evE_lst, evE_call, evE_bi, evE_isi, evE_pop, evE_lrv, evE_lrg, evEs_nil, evEs_cons, evEo_no, evEo_so, evC_no, evC_so, evIt_list, evIt_rg1, evIt_rg2, evIt_rg3, evIt_rev, evIt_zip, evIt_enum, evIt_str, evIt_brw, evIt_tupi, evS_asg, evS_unp, evS_par, evS_swp, evS_set1, evS_aug, evS_mut0, evS_ex, evS_ifs, evS_scn, evS_ret, evS_rse, evS_try1, evS_try2, evS_brk, evS_cnt, evS_pas, evS_kil, evSs_nil, evSs_cons, sq_nx, sq_rt, sq_bk, sq_ct, sq_ex, evS_whl, evS_frs, evE_lc, bnd, sbnd, obnd, raw, res, resL, rawL, valsL, anyBor, opBin, opCmp, opBi, biAbs, biInt, biStr, biLen, biList, biSum, biMax, biMin, biAll, Itr.bk, putBack, itemsOf, hkGo, boolsOf, opNeg, opNot, ixD, slD, litD, atom, isD, D.share, shareL, D.isHole, D.whole, wholeL, D.noOw, noOwL, D.noSh, noShL, stIx, owAt, asB, setTg, putE, mutD, mtAppend, mtExtend, mtPop, mtClear, mtInsert, kill, List.foldl_cons, List.foldl_nil, List.getElem?_cons_zero, List.getElem?_cons_succ, List.getElem?_nil, List.set_cons_zero, List.set_cons_succ, List.length_cons, List.length_nil, Bool.and_true, Bool.true_and, Bool.and_false, Bool.false_and, Bool.not_true, Bool.not_false, cond_true, cond_false, if_true, if_false, ite_true, ite_false, reduceIte, reduceCtorEq, Bool.false_eq_true, startE, List.replicate, List.append_eq, List.nil_append, List.cons_append, List.append_nil, fin, TV.atI0, TV.atI1, Option.bind_some, Option.map_some, Bool.and_self, Bool.or_self, Nat.reduceSub, Nat.reduceAdd, Nat.reduceEqDiff, Bool.not_eq_true, Bool.and_eq_true, decide_true, decide_false, real_eq_int, real_eq_bl, real_eq_non, real_eq_enc, real_eq_enc2, eqD_int, eqD_bl, eqD_pair, Int.reduceEq, Int.reduceToNat, Int.reduceLE, Int.reduceLT, nab10, nab2, castn0, castn1, castn2, castn3, castn4, castn5, Nat.reduceLT, and_self, and_true, true_and, and_false, false_and, if_pos trivial, not_true_eq_false, not_false_eq_true, Bool.or_true, Bool.or_false, Bool.true_or, Bool.false_or, r1, r2, r3, k0, k1, k2, r0]
  · have k0 : eqD (.tup [.str "sum"]) (.str "far") = false := by decide +kernel
    have k1 : eqD (.tup [.str "sum"]) (.str "sum") = false := by decide +kernel
    have k2 : eqD (.tup [.str "sum"]) (.str "square") = false := by decide +kernel
    have r0 : real.eq (.tup [.str "sum"]) = true := by decide +kernel
    simp only [c_joined, f_joined, evE_mv, evE_fr, evE_bo, evE_lit, evE_glb, evE_shr, evE_bin, evE_neg, evE_not, evE_and, evE_or, evE_cmp, evE_ix, evE_pth, evE_sl, evE_tup, evE_lst, evE_call, evE_bi, evE_isi, evE_pop, evE_lrv, evE_lrg, evEs_nil, evEs_cons, evEo_no, evEo_so, evC_no, evC_so, evIt_list, evIt_rg1, evIt_rg2, evIt_rg3, evIt_rev, evIt_zip, evIt_enum, evIt_str, evIt_brw, evIt_tupi, evS_asg, evS_unp, evS_par, evS_swp, evS_set1, evS_aug, evS_mut0, evS_ex, evS_ifs, evS_scn, evS_ret, evS_rse, evS_try1, evS_try2, evS_brk, evS_cnt, evS_pas, evS_kil, evSs_nil, evSs_cons, sq_nx, sq_rt, sq_bk, sq_ct, sq_ex, evS_whl, evS_frs, evE_lc, bnd, sbnd, obnd, raw, res, resL, rawL, valsL, anyBor, opBin, opCmp, opBi, biAbs, biInt, biStr, biLen, biList, biSum, biMax, biMin, biAll, Itr.bk, putBack, itemsOf, hkGo, boolsOf, opNeg, opNot, ixD, slD, litD, atom, isD, D.share, shareL, D.isHole, D.whole, wholeL, D.noOw, noOwL, D.noSh, noShL, stIx, owAt, asB, setTg, putE, mutD, mtAppend, mtExtend, mtPop, mtClear, mtInsert, kill, List.foldl_cons, List.foldl_nil, List.getElem?_cons_zero, List.getElem?_cons_succ, List.getElem?_nil, List.set_cons_zero, List.set_cons_succ, List.length_cons, List.length_nil, Bool.and_true, Bool.true_and, Bool.and_false, Bool.false_and, Bool.not_true, Bool.not_false, cond_true, cond_false, if_true, if_false, ite_true, ite_false, reduceIte, reduceCtorEq, Bool.false_eq_true, startE, List.replicate, List.append_eq, List.nil_append, List.cons_append, List.append_nil, fin, TV.atI0, TV.atI1, Option.bind_some, Option.map_some, Bool.and_self, Bool.or_self, Nat.reduceSub, Nat.reduceAdd, Nat.reduceEqDiff, Bool.not_eq_true, Bool.and_eq_true, decide_true, decide_false, real_eq_int, real_eq_bl, real_eq_non, real_eq_enc, real_eq_enc2, eqD_int, eqD_bl, eqD_pair, Int.reduceEq, Int.reduceToNat, Int.reduceLE, Int.reduceLT, nab10, nab2, castn0, castn1, castn2, castn3, castn4, castn5, Nat.reduceLT, and_self, and_true, true_and, and_false, false_and, if_pos trivial, not_true_eq_false, not_false_eq_true, Bool.or_true, Bool.or_false, Bool.true_or, Bool.false_or, r1, r2, r3, k0, k1, k2, r0]
  · have k0 : eqD (.bl true) (.str "far") = false := by decide +kernel
    have k1 : eqD (.bl true) (.str "sum") = false := by decide +kernel
    have k2 : eqD (.bl true) (.str "square") = false := by decide +kernel
    have r0 : real.eq (.bl true) = true := by decide +kernel
    simp only [c_joined, f_joined, evE_mv, evE_fr, evE_bo, evE_lit, evE_glb, evE_shr, evE_bin, evE_neg, evE_not, evE_and, evE_or, evE_cmp, evE_ix, evE_pth, evE_sl, evE_tup, evE_lst, evE_call, evE_bi, evE_isi, evE_pop, evE_lrv, evE_lrg, evEs_nil, evEs_cons, evEo_no, evEo_so, evC_no, evC_so, evIt_list, evIt_rg1, evIt_rg2, evIt_rg3, evIt_rev, evIt_zip, evIt_enum, evIt_str, evIt_brw, evIt_tupi, evS_asg, evS_unp, evS_par, evS_swp, evS_set1, evS_aug, evS_mut0, evS_ex, evS_ifs, evS_scn, evS_ret, evS_rse, evS_try1, evS_try2, evS_brk, evS_cnt, evS_pas, evS_kil, evSs_nil, evSs_cons, sq_nx, sq_rt, sq_bk, sq_ct, sq_ex, evS_whl, evS_frs, evE_lc, bnd, sbnd, obnd, raw, res, resL, rawL, valsL, anyBor, opBin, opCmp, opBi, biAbs, biInt, biStr, biLen, biList, biSum, biMax, biMin, biAll, Itr.bk, putBack, itemsOf, hkGo, boolsOf, opNeg, opNot, ixD, slD, litD, atom, isD, D.share, shareL, D.isHole, D.whole, wholeL, D.noOw, noOwL, D.noSh, noShL, stIx, owAt, asB, setTg, putE, mutD, mtAppend, mtExtend, mtPop, mtClear, mtInsert, kill, List.foldl_cons, List.foldl_nil, List.getElem?_cons_zero, List.getElem?_cons_succ, List.getElem?_nil, List.set_cons_zero, List.set_cons_succ, List.length_cons, List.length_nil, Bool.and_true, Bool.true_and, Bool.and_false, Bool.false_and, Bool.not_true, Bool.not_false, cond_true, cond_false, if_true, if_false, ite_true, ite_false, reduceIte, reduceCtorEq, Bool.false_eq_true, startE, List.replicate, List.append_eq, List.nil_append, List.cons_append, List.append_nil, fin, TV.atI0, TV.atI1, Option.bind_some, Option.map_some, Bool.and_self, Bool.or_self, Nat.reduceSub, Nat.reduceAdd, Nat.reduceEqDiff, Bool.not_eq_true, Bool.and_eq_true, decide_true, decide_false, real_eq_int, real_eq_bl, real_eq_non, real_eq_enc, real_eq_enc2, eqD_int, eqD_bl, eqD_pair, Int.reduceEq, Int.reduceToNat, Int.reduceLE, Int.reduceLT, nab10, nab2, castn0, castn1, castn2, castn3, castn4, castn5, Nat.reduceLT, and_self, and_true, true_and, and_false, false_and, if_pos trivial, not_true_eq_false, not_false_eq_true, Bool.or_true, Bool.or_false, Bool.true_or, Bool.false_or, r1, r2, r3, k0, k1, k2, r0]
  · have k0 : eqD (.str "FAR") (.str "far") = false := by decide +kernel
    have k1 : eqD (.str "FAR") (.str "sum") = false := by decide +kernel
    have k2 : eqD (.str "FAR") (.str "square") = false := by decide +kernel
    have r0 : real.eq (.str "FAR") = true := by decide +kernel
    simp only [c_joined, f_joined, evE_mv, evE_fr, evE_bo, evE_lit, evE_glb, evE_shr, evE_bin, evE_neg, evE_not, evE_and, evE_or, evE_cmp, evE_ix, evE_pth, evE_sl, evE_tup, evE_lst, evE_call, evE_bi, evE_isi, evE_pop, evE_lrv, evE_lrg, evEs_nil, evEs_cons, evEo_no, evEo_so, evC_no, evC_so, evIt_list, evIt_rg1, evIt_rg2, evIt_rg3, evIt_rev, evIt_zip, evIt_enum, evIt_str, evIt_brw, evIt_tupi, evS_asg, evS_unp, evS_par, evS_swp, evS_set1, evS_aug, evS_mut0, evS_ex, evS_ifs, evS_scn, evS_ret, evS_rse, evS_try1, evS_try2, evS_brk, evS_cnt, evS_pas, evS_kil, evSs_nil, evSs_cons, sq_nx, sq_rt, sq_bk, sq_ct, sq_ex, evS_whl, evS_frs, evE_lc, bnd, sbnd, obnd, raw, res, resL, rawL, valsL, anyBor, opBin, opCmp, opBi, biAbs, biInt, biStr, biLen, biList, biSum, biMax, biMin, biAll, Itr.bk, putBack, itemsOf, hkGo, boolsOf, opNeg, opNot, ixD, slD, litD, atom, isD, D.share, shareL, D.isHole, D.whole, wholeL, D.noOw, noOwL, D.noSh, noShL, stIx, owAt, asB, setTg, putE, mutD, mtAppend, mtExtend, mtPop, mtClear, mtInsert, kill, List.foldl_cons, List.foldl_nil, List.getElem?_cons_zero, List.getElem?_cons_succ, List.getElem?_nil, List.set_cons_zero, List.set_cons_succ, List.length_cons, List.length_nil, Bool.and_true, Bool.true_and, Bool.and_false, Bool.false_and, Bool.not_true, Bool.not_false, cond_true, cond_false, if_true, if_false, ite_true, ite_false, reduceIte, reduceCtorEq, Bool.false_eq_true, startE, List.replicate, List.append_eq, List.nil_append, List.cons_append, List.append_nil, fin, TV.atI0, TV.atI1, Option.bind_some, Option.map_some, Bool.and_self, Bool.or_self, Nat.reduceSub, Nat.reduceAdd, Nat.reduceEqDiff, Bool.not_eq_true, Bool.and_eq_true, decide_true, decide_false, real_eq_int, real_eq_bl, real_eq_non, real_eq_enc, real_eq_enc2, eqD_int, eqD_bl, eqD_pair, Int.reduceEq, Int.reduceToNat, Int.reduceLE, Int.reduceLT, nab10, nab2, castn0, castn1, castn2, castn3, castn4, castn5, Nat.reduceLT, and_self, and_true, true_and, and_false, false_and, if_pos trivial, not_true_eq_false, not_false_eq_true, Bool.or_true, Bool.or_false, Bool.true_or, Bool.false_or, r1, r2, r3, k0, k1, k2, r0]
  · have k0 : eqD (.str "square\n") (.str "far") = false := by decide +kernel
    have k1 : eqD (.str "square\n") (.str "sum") = false := by decide +kernel
    have k2 : eqD (.str "square\n") (.str "square") = false := by decide +kernel
    have r0 : real.eq (.str "square\n") = true := by decide +kernel
    simp only [c_joined, f_joined, evE_mv, evE_fr, evE_bo, evE_lit, evE_glb, evE_shr, evE_bin, evE_neg, evE_not, evE_and, evE_or, evE_cmp, evE_ix, evE_pth, evE_sl, evE_tup, evE_lst, evE_call, evE_bi, evE_isi, evE_pop, evE_lrv, evE_lrg, evEs_nil, evEs_cons, evEo_no, evEo_so, evC_no, evC_so, evIt_list, evIt_rg1, evIt_rg2, evIt_rg3, evIt_rev, evIt_zip, evIt_enum, evIt_str, evIt_brw, evIt_tupi, evS_asg, evS_unp, evS_par, evS_swp, evS_set1, evS_aug, evS_mut0, evS_ex, evS_ifs, evS_scn, evS_ret, evS_rse, evS_try1, evS_try2, evS_brk, evS_cnt, evS_pas, evS_kil, evSs_nil, evSs_cons, sq_nx, sq_rt, sq_bk, sq_ct, sq_ex, evS_whl, evS_frs, evE_lc, bnd, sbnd, obnd, raw, res, resL, rawL, valsL, anyBor, opBin, opCmp, opBi, biAbs, biInt, biStr, biLen, biList, biSum, biMax, biMin, biAll, Itr.bk, putBack, itemsOf, hkGo, boolsOf, opNeg, opNot, ixD, slD, litD, atom, isD, D.share, shareL, D.isHole, D.whole, wholeL, D.noOw, noOwL, D.noSh, noShL, stIx, owAt, asB, setTg, putE, mutD, mtAppend, mtExtend, mtPop, mtClear, mtInsert, kill, List.foldl_cons, List.foldl_nil, List.getElem?_cons_zero, List.getElem?_cons_succ, List.getElem?_nil, List.set_cons_zero, List.set_cons_succ, List.length_cons, List.length_nil, Bool.and_true, Bool.true_and, Bool.and_false, Bool.false_and, Bool.not_true, Bool.not_false, cond_true, cond_false, if_true, if_false, ite_true, ite_false, reduceIte, reduceCtorEq, Bool.false_eq_true, startE, List.replicate, List.append_eq, List.nil_append, List.cons_append, List.append_nil, fin, TV.atI0, TV.atI1, Option.bind_some, Option.map_some, Bool.and_self, Bool.or_self, Nat.reduceSub, Nat.reduceAdd, Nat.reduceEqDiff, Bool.not_eq_true, Bool.and_eq_true, decide_true, decide_false, real_eq_int, real_eq_bl, real_eq_non, real_eq_enc, real_eq_enc2, eqD_int, eqD_bl, eqD_pair, Int.reduceEq, Int.reduceToNat, Int.reduceLE, Int.reduceLT, nab10, nab2, castn0, castn1, castn2, castn3, castn4, castn5, Nat.reduceLT, and_self, and_true, true_and, and_false, false_and, if_pos trivial, not_true_eq_false, not_false_eq_true, Bool.or_true, Bool.or_false, Bool.true_or, Bool.false_or, r1, r2, r3, k0, k1, k2, r0]
  · have k0 : eqD (.lst .sh [.str "sum"]) (.str "far") = false := by decide +kernel
    have k1 : eqD (.lst .sh [.str "sum"]) (.str "sum") = false := by decide +kernel
    have k2 : eqD (.lst .sh [.str "sum"]) (.str "square") = false := by decide +kernel
    have r0 : real.eq (.lst .sh [.str "sum"]) = true := by decide +kernel
    simp only [c_joined, f_joined, evE_mv, evE_fr, evE_bo, evE_lit, evE_glb, evE_shr, evE_bin, evE_neg, evE_not, evE_and, evE_or, evE_cmp, evE_ix, evE_pth, evE_sl, evE_tup, evE_lst, evE_call, evE_bi, evE_isi, evE_pop, evE_lrv, evE_lrg, evEs_nil, evEs_cons, evEo_no, evEo_so, evC_no, evC_so, evIt_list, evIt_rg1, evIt_rg2, evIt_rg3, evIt_rev, evIt_zip, evIt_enum, evIt_str, evIt_brw, evIt_tupi, evS_asg, evS_unp, evS_par, evS_swp, evS_set1, evS_aug, evS_mut0, evS_ex, evS_ifs, evS_scn, evS_ret, evS_rse, evS_try1, evS_try2, evS_brk, evS_cnt, evS_pas, evS_kil, evSs_nil, evSs_cons, sq_nx, sq_rt, sq_bk, sq_ct, sq_ex, evS_whl, evS_frs, evE_lc, bnd, sbnd, obnd, raw, res, resL, rawL, valsL, anyBor, opBin, opCmp, opBi, biAbs, biInt, biStr, biLen, biList, biSum, biMax, biMin, biAll, Itr.bk, putBack, itemsOf, hkGo, boolsOf, opNeg, opNot, ixD, slD, litD, atom, isD, D.share, shareL, D.isHole, D.whole, wholeL, D.noOw, noOwL, D.noSh, noShL, stIx, owAt, asB, setTg, putE, mutD, mtAppend, mtExtend, mtPop, mtClear, mtInsert, kill, List.foldl_cons, List.foldl_nil, List.getElem?_cons_zero, List.getElem?_cons_succ, List.getElem?_nil, List.set_cons_zero, List.set_cons_succ, List.length_cons, List.length_nil, Bool.and_true, Bool.true_and, Bool.and_false, Bool.false_and, Bool.not_true, Bool.not_false, cond_true, cond_false, if_true, if_false, ite_true, ite_false, reduceIte, reduceCtorEq, Bool.false_eq_true, startE, List.replicate, List.append_eq, List.nil_append, List.cons_append, List.append_nil, fin, TV.atI0, TV.atI1, Option.bind_some, Option.map_some, Bool.and_self, Bool.or_self, Nat.reduceSub, Nat.reduceAdd, Nat.reduceEqDiff, Bool.not_eq_true, Bool.and_eq_true, decide_true, decide_false, real_eq_int, real_eq_bl, real_eq_non, real_eq_enc, real_eq_enc2, eqD_int, eqD_bl, eqD_pair, Int.reduceEq, Int.reduceToNat, Int.reduceLE, Int.reduceLT, nab10, nab2, castn0, castn1, castn2, castn3, castn4, castn5, Nat.reduceLT, and_self, and_true, true_and, and_false, false_and, if_pos trivial, not_true_eq_false, not_false_eq_true, Bool.or_true, Bool.or_false, Bool.true_or, Bool.false_or, r1, r2, r3, k0, k1, k2, r0]
  · simp only [c_joined, f_joined, evE_mv, evE_fr, evE_bo, evE_lit, evE_glb, evE_shr, evE_bin, evE_neg, evE_not, evE_and, evE_or, evE_cmp, evE_ix, evE_pth, evE_sl, evE_tup, evE_lst, evE_call, evE_bi, evE_isi, evE_pop, evE_lrv, evE_lrg, evEs_nil, evEs_cons, evEo_no, evEo_so, evC_no, evC_so, evIt_list, evIt_rg1, evIt_rg2, evIt_rg3, evIt_rev, evIt_zip, evIt_enum, evIt_str, evIt_brw, evIt_tupi, evS_asg, evS_unp, evS_par, evS_swp, evS_set1, evS_aug, evS_mut0, evS_ex, evS_ifs, evS_scn, evS_ret, evS_rse, evS_try1, evS_try2, evS_brk, evS_cnt, evS_pas, evS_kil, evSs_nil, evSs_cons, sq_nx, sq_rt, sq_bk, sq_ct, sq_ex, evS_whl, evS_frs, evE_lc, bnd, sbnd, obnd, raw, res, resL, rawL, valsL, anyBor, opBin, opCmp, opBi, biAbs, biInt, biStr, biLen, biList, biSum, biMax, biMin, biAll, Itr.bk, putBack, itemsOf, hkGo, boolsOf, opNeg, opNot, ixD, slD, litD, atom, isD, D.share, shareL, D.isHole, D.whole, wholeL, D.noOw, noOwL, D.noSh, noShL, stIx, owAt, asB, setTg, putE, mutD, mtAppend, mtExtend, mtPop, mtClear, mtInsert, kill, List.foldl_cons, List.foldl_nil, List.getElem?_cons_zero, List.getElem?_cons_succ, List.getElem?_nil, List.set_cons_zero, List.set_cons_succ, List.length_cons, List.length_nil, Bool.and_true, Bool.true_and, Bool.and_false, Bool.false_and, Bool.not_true, Bool.not_false, cond_true, cond_false, if_true, if_false, ite_true, ite_false, reduceIte, reduceCtorEq, Bool.false_eq_true, startE, List.replicate, List.append_eq, List.nil_append, List.cons_append, List.append_nil, fin, TV.atI0, TV.atI1, Option.bind_some, Option.map_some, Bool.and_self, Bool.or_self, Nat.reduceSub, Nat.reduceAdd, Nat.reduceEqDiff, Bool.not_eq_true, Bool.and_eq_true, decide_true, decide_false, real_eq_int, real_eq_bl, real_eq_non, real_eq_enc, real_eq_enc2, eqD_int, eqD_bl, eqD_pair, Int.reduceEq, Int.reduceToNat, Int.reduceLE, Int.reduceLT, nab10, nab2, castn0, castn1, castn2, castn3, castn4, castn5, Nat.reduceLT, and_self, and_true, true_and, and_false, false_and, if_pos trivial, not_true_eq_false, not_false_eq_true, Bool.or_true, Bool.or_false, Bool.true_or, Bool.false_or, r1, r2, r3]
theorem refused (d : D) (hd : d ∈ oddL) (p q : Rat) : run real (excOf exs) (fun x => gl.lookup x) T (n + 2) "_law_refused" [d, enc p, enc q] = some (.ok (.bl true)) := by
  have hj := joined_odd (n := n) d hd p q
  rw [run_eq (f := "_law_refused") (d := f__law_refused) rfl rfl]
  have he : (excOf exs).c "NoKind" "MissError" = true := by decide +kernel
  have k1 : kindsOf ((excOf exs).k "NoKind") [(false, "NoKind"), (false, "ValueError"), (false, "NoNumber"), (false, "NoMarks")] = some [true, true, false, false] := by decide +kernel
  have q1 : real.eq (.lst .sh [.bl true, .bl true, .bl false, .bl false]) = true := by decide +kernel
  have q2 : real.eq (.lst .ow [.bl true, .bl true, .bl false, .bl false]) = true := by decide +kernel
  have q3 := eqD_same .sh .ow [.bl true, .bl true, .bl false, .bl false]
  have q4 := eqD_same .ow .ow [.bl true, .bl true, .bl false, .bl false]
  unfold enc at *
  simp only [oddL, List.mem_cons, List.not_mem_nil, or_false] at hd
  rcases hd with rfl | rfl | rfl | rfl | rfl | rfl | rfl | rfl | rfl | rfl | rfl | rfl | rfl <;> simp only [c__law_refused, f__law_refused, evE_mv, evE_fr, evE_bo, evE_lit, evE_glb, evE_shr, evE_bin, evE_neg, evE_not, evE_and, evE_or, evE_cmp, evE_ix, evE_pth, evE_sl, evE_tup, evE_lst, evE_call, evE_bi, evE_isi, evE_pop, evE_lrv, evE_lrg, evEs_nil, evEs_cons, evEo_no, evEo_so, evC_no, evC_so, evIt_list, evIt_rg1, evIt_rg2, evIt_rg3, evIt_rev, evIt_zip, evIt_enum, evIt_str, evIt_brw, evIt_tupi, evS_asg, evS_unp, evS_par, evS_swp, evS_set1, evS_aug, evS_mut0, evS_ex, evS_ifs, evS_scn, evS_ret, evS_rse, evS_try1, evS_try2, evS_brk, evS_cnt, evS_pas, evS_kil, evSs_nil, evSs_cons, sq_nx, sq_rt, sq_bk, sq_ct, sq_ex, evS_whl, evS_frs, evE_lc, bnd, sbnd, obnd, raw, res, resL, rawL, valsL, anyBor, opBin, opCmp, opBi, biAbs, biInt, biStr, biLen, biList, biSum, biMax, biMin, biAll, Itr.bk, putBack, itemsOf, hkGo, boolsOf, opNeg, opNot, ixD, slD, litD, atom, isD, D.share, shareL, D.isHole, D.whole, wholeL, D.noOw, noOwL, D.noSh, noShL, stIx, owAt, asB, setTg, putE, mutD, mtAppend, mtExtend, mtPop, mtClear, mtInsert, kill, List.foldl_cons, List.foldl_nil, List.getElem?_cons_zero, List.getElem?_cons_succ, List.getElem?_nil, List.set_cons_zero, List.set_cons_succ, List.length_cons, List.length_nil, Bool.and_true, Bool.true_and, Bool.and_false, Bool.false_and, Bool.not_true, Bool.not_false, cond_true, cond_false, if_true, if_false, ite_true, ite_false, reduceIte, reduceCtorEq, Bool.false_eq_true, startE, List.replicate, List.append_eq, List.nil_append, List.cons_append, List.append_nil, fin, TV.atI0, TV.atI1, Option.bind_some, Option.map_some, Bool.and_self, Bool.or_self, Nat.reduceSub, Nat.reduceAdd, Nat.reduceEqDiff, Bool.not_eq_true, Bool.and_eq_true, decide_true, decide_false, real_eq_int, real_eq_bl, real_eq_non, real_eq_enc, real_eq_enc2, eqD_int, eqD_bl, eqD_pair, Int.reduceEq, Int.reduceToNat, Int.reduceLE, Int.reduceLT, nab10, nab2, castn0, castn1, castn2, castn3, castn4, castn5, Nat.reduceLT, and_self, and_true, true_and, and_false, false_and, if_pos trivial, not_true_eq_false, not_false_eq_true, Bool.or_true, Bool.or_false, Bool.true_or, Bool.false_or, hj, evS_try2, he, k1, q1, q2, q3, q4, List.map_cons, List.map_nil, List.map_append]
theorem good (q : Rat) : run real (excOf exs) (fun x => gl.lookup x) T (n + 3) "_law_good" [enc q, enc q] = some (.ok (.bl true)) := by
  rw [run_eq (f := "_law_good") (d := f__law_good) rfl rfl]
  have e := run_law_fraction_1 (exc := excOf exs) (glb := fun x => gl.lookup x) (T := T) (n := n) rfl rfl q
  have r := eqD_refl (enc q)
  unfold enc at *
  simp only [c__law_good, f__law_good, evE_mv, evE_fr, evE_bo, evE_lit, evE_glb, evE_shr, evE_bin, evE_neg, evE_not, evE_and, evE_or, evE_cmp, evE_ix, evE_pth, evE_sl, evE_tup, evE_lst, evE_call, evE_bi, evE_isi, evE_pop, evE_lrv, evE_lrg, evEs_nil, evEs_cons, evEo_no, evEo_so, evC_no, evC_so, evIt_list, evIt_rg1, evIt_rg2, evIt_rg3, evIt_rev, evIt_zip, evIt_enum, evIt_str, evIt_brw, evIt_tupi, evS_asg, evS_unp, evS_par, evS_swp, evS_set1, evS_aug, evS_mut0, evS_ex, evS_ifs, evS_scn, evS_ret, evS_rse, evS_try1, evS_try2, evS_brk, evS_cnt, evS_pas, evS_kil, evSs_nil, evSs_cons, sq_nx, sq_rt, sq_bk, sq_ct, sq_ex, evS_whl, evS_frs, evE_lc, bnd, sbnd, obnd, raw, res, resL, rawL, valsL, anyBor, opBin, opCmp, opBi, biAbs, biInt, biStr, biLen, biList, biSum, biMax, biMin, biAll, Itr.bk, putBack, itemsOf, hkGo, boolsOf, opNeg, opNot, ixD, slD, litD, atom, isD, D.share, shareL, D.isHole, D.whole, wholeL, D.noOw, noOwL, D.noSh, noShL, stIx, owAt, asB, setTg, putE, mutD, mtAppend, mtExtend, mtPop, mtClear, mtInsert, kill, List.foldl_cons, List.foldl_nil, List.getElem?_cons_zero, List.getElem?_cons_succ, List.getElem?_nil, List.set_cons_zero, List.set_cons_succ, List.length_cons, List.length_nil, Bool.and_true, Bool.true_and, Bool.and_false, Bool.false_and, Bool.not_true, Bool.not_false, cond_true, cond_false, if_true, if_false, ite_true, ite_false, reduceIte, reduceCtorEq, Bool.false_eq_true, startE, List.replicate, List.append_eq, List.nil_append, List.cons_append, List.append_nil, fin, TV.atI0, TV.atI1, Option.bind_some, Option.map_some, Bool.and_self, Bool.or_self, Nat.reduceSub, Nat.reduceAdd, Nat.reduceEqDiff, Bool.not_eq_true, Bool.and_eq_true, decide_true, decide_false, real_eq_int, real_eq_bl, real_eq_non, real_eq_enc, real_eq_enc2, eqD_int, eqD_bl, eqD_pair, Int.reduceEq, Int.reduceToNat, Int.reduceLE, Int.reduceLT, nab10, nab2, castn0, castn1, castn2, castn3, castn4, castn5, Nat.reduceLT, and_self, and_true, true_and, and_false, false_and, if_pos trivial, not_true_eq_false, not_false_eq_true, Bool.or_true, Bool.or_false, Bool.true_or, Bool.false_or, e, r]
theorem joinA (C : TV.Ctx) (hL : C.L = real) (rn : Str → List D → Option CRes) (hrn : C.call = rn) (p q du bt : Rat) (c : Int) (m1 : real.mul p.num q.den = true) (m2 : real.mul q.num p.den = true) (m3 : real.mul p.den q.den = true) (hdu : du = if p.num * (q.den : Int) < q.num * (p.den : Int) then q else p) (e : rn "_law_lowest" [.int (p.num * q.den + q.num * p.den), .int (p.den * q.den)] = some (.ok (enc bt))) :
    evSs C (takeS 4 c__law_joined) [enc p, enc q, .int c, .hole, .hole, .hole] = some (.nx [enc p, enc q, .int c, enc du, enc bt, .lst .ow oddL]) := by
  subst hrn
  subst hdu
  by_cases z : p.num * (q.den : Int) < q.num * (p.den : Int)
  · rw [if_pos z]
    unfold enc at *
    simp only [c__law_joined, takeS, evE_mv, evE_fr, evE_bo, evE_lit, evE_glb, evE_shr, evE_bin, evE_neg, evE_not, evE_and, evE_or, evE_cmp, evE_ix, evE_pth, evE_sl, evE_tup, evE_lst, evE_call, evE_bi, evE_isi, evE_pop, evE_lrv, evE_lrg, evEs_nil, evEs_cons, evEo_no, evEo_so, evC_no, evC_so, evIt_list, evIt_rg1, evIt_rg2, evIt_rg3, evIt_rev, evIt_zip, evIt_enum, evIt_str, evIt_brw, evIt_tupi, evS_asg, evS_unp, evS_par, evS_swp, evS_set1, evS_aug, evS_mut0, evS_ex, evS_ifs, evS_scn, evS_ret, evS_rse, evS_try1, evS_try2, evS_brk, evS_cnt, evS_pas, evS_kil, evSs_nil, evSs_cons, sq_nx, sq_rt, sq_bk, sq_ct, sq_ex, evS_whl, evS_frs, evE_lc, bnd, sbnd, obnd, raw, res, resL, rawL, valsL, anyBor, opBin, opCmp, opBi, biAbs, biInt, biStr, biLen, biList, biSum, biMax, biMin, biAll, Itr.bk, putBack, itemsOf, hkGo, boolsOf, opNeg, opNot, ixD, slD, litD, atom, isD, D.share, shareL, D.isHole, D.whole, wholeL, D.noOw, noOwL, D.noSh, noShL, stIx, owAt, asB, setTg, putE, mutD, mtAppend, mtExtend, mtPop, mtClear, mtInsert, kill, List.foldl_cons, List.foldl_nil, List.getElem?_cons_zero, List.getElem?_cons_succ, List.getElem?_nil, List.set_cons_zero, List.set_cons_succ, List.length_cons, List.length_nil, Bool.and_true, Bool.true_and, Bool.and_false, Bool.false_and, Bool.not_true, Bool.not_false, cond_true, cond_false, if_true, if_false, ite_true, ite_false, reduceIte, reduceCtorEq, Bool.false_eq_true, startE, List.replicate, List.append_eq, List.nil_append, List.cons_append, List.append_nil, fin, TV.atI0, TV.atI1, Option.bind_some, Option.map_some, Bool.and_self, Bool.or_self, Nat.reduceSub, Nat.reduceAdd, Nat.reduceEqDiff, Bool.not_eq_true, Bool.and_eq_true, decide_true, decide_false, real_eq_int, real_eq_bl, real_eq_non, real_eq_enc, real_eq_enc2, eqD_int, eqD_bl, eqD_pair, Int.reduceEq, Int.reduceToNat, Int.reduceLE, Int.reduceLT, nab10, nab2, castn0, castn1, castn2, castn3, castn4, castn5, Nat.reduceLT, and_self, and_true, true_and, and_false, false_and, if_pos trivial, not_true_eq_false, not_false_eq_true, Bool.or_true, Bool.or_false, Bool.true_or, Bool.false_or, hL, m1, m2, m3, z, e, oddL]
  · rw [if_neg z]
    unfold enc at *
    simp only [c__law_joined, takeS, evE_mv, evE_fr, evE_bo, evE_lit, evE_glb, evE_shr, evE_bin, evE_neg, evE_not, evE_and, evE_or, evE_cmp, evE_ix, evE_pth, evE_sl, evE_tup, evE_lst, evE_call, evE_bi, evE_isi, evE_pop, evE_lrv, evE_lrg, evEs_nil, evEs_cons, evEo_no, evEo_so, evC_no, evC_so, evIt_list, evIt_rg1, evIt_rg2, evIt_rg3, evIt_rev, evIt_zip, evIt_enum, evIt_str, evIt_brw, evIt_tupi, evS_asg, evS_unp, evS_par, evS_swp, evS_set1, evS_aug, evS_mut0, evS_ex, evS_ifs, evS_scn, evS_ret, evS_rse, evS_try1, evS_try2, evS_brk, evS_cnt, evS_pas, evS_kil, evSs_nil, evSs_cons, sq_nx, sq_rt, sq_bk, sq_ct, sq_ex, evS_whl, evS_frs, evE_lc, bnd, sbnd, obnd, raw, res, resL, rawL, valsL, anyBor, opBin, opCmp, opBi, biAbs, biInt, biStr, biLen, biList, biSum, biMax, biMin, biAll, Itr.bk, putBack, itemsOf, hkGo, boolsOf, opNeg, opNot, ixD, slD, litD, atom, isD, D.share, shareL, D.isHole, D.whole, wholeL, D.noOw, noOwL, D.noSh, noShL, stIx, owAt, asB, setTg, putE, mutD, mtAppend, mtExtend, mtPop, mtClear, mtInsert, kill, List.foldl_cons, List.foldl_nil, List.getElem?_cons_zero, List.getElem?_cons_succ, List.getElem?_nil, List.set_cons_zero, List.set_cons_succ, List.length_cons, List.length_nil, Bool.and_true, Bool.true_and, Bool.and_false, Bool.false_and, Bool.not_true, Bool.not_false, cond_true, cond_false, if_true, if_false, ite_true, ite_false, reduceIte, reduceCtorEq, Bool.false_eq_true, startE, List.replicate, List.append_eq, List.nil_append, List.cons_append, List.append_nil, fin, TV.atI0, TV.atI1, Option.bind_some, Option.map_some, Bool.and_self, Bool.or_self, Nat.reduceSub, Nat.reduceAdd, Nat.reduceEqDiff, Bool.not_eq_true, Bool.and_eq_true, decide_true, decide_false, real_eq_int, real_eq_bl, real_eq_non, real_eq_enc, real_eq_enc2, eqD_int, eqD_bl, eqD_pair, Int.reduceEq, Int.reduceToNat, Int.reduceLE, Int.reduceLT, nab10, nab2, castn0, castn1, castn2, castn3, castn4, castn5, Nat.reduceLT, and_self, and_true, true_and, and_false, false_and, if_pos trivial, not_true_eq_false, not_false_eq_true, Bool.or_true, Bool.or_false, Bool.true_or, Bool.false_or, hL, m1, m2, m3, z, e, oddL]
theorem joinB (C : TV.Ctx) (hL : C.L = real) (rn : Str → List D → Option CRes) (hrn : C.call = rn) (p q du bt : Rat) (c : Int) (d : D) (hd : d ∈ oddL) (at1 : atI oddL (c.fmod 13) = some d)
    (j1 : rn "joined" [.str "far", enc p, enc q] = some (.ok (enc du))) (j2 : rn "joined" [.str "far", enc q, enc p] = some (.ok (enc du))) (j3 : rn "joined" [.str "sum", enc p, enc q] = some (.ok (enc bt))) (j4 : rn "joined" [.str "square", enc p, enc q] = some (.ok (enc bt))) (g1 : rn "_law_good" [enc du, enc du] = some (.ok (.bl true))) (g2 : rn "_law_good" [enc bt, enc bt] = some (.ok (.bl true))) (hr : rn "_law_refused" [d, enc p, enc q] = some (.ok (.bl true))) :
    fin (evSs C (dropS 4 c__law_joined) [enc p, enc q, .int c, enc du, enc bt, .lst .ow oddL]) = some (.ok (.bl true)) := by
  subst hrn
  generalize hO : oddL = O at at1 ⊢
  simp only [oddL, List.mem_cons, List.not_mem_nil, or_false] at hd
  clear hO
  unfold enc at *
  rcases hd with rfl | rfl | rfl | rfl | rfl | rfl | rfl | rfl | rfl | rfl | rfl | rfl | rfl <;> simp only [c__law_joined, dropS, evE_mv, evE_fr, evE_bo, evE_lit, evE_glb, evE_shr, evE_bin, evE_neg, evE_not, evE_and, evE_or, evE_cmp, evE_ix, evE_pth, evE_sl, evE_tup, evE_lst, evE_call, evE_bi, evE_isi, evE_pop, evE_lrv, evE_lrg, evEs_nil, evEs_cons, evEo_no, evEo_so, evC_no, evC_so, evIt_list, evIt_rg1, evIt_rg2, evIt_rg3, evIt_rev, evIt_zip, evIt_enum, evIt_str, evIt_brw, evIt_tupi, evS_asg, evS_unp, evS_par, evS_swp, evS_set1, evS_aug, evS_mut0, evS_ex, evS_ifs, evS_scn, evS_ret, evS_rse, evS_try1, evS_try2, evS_brk, evS_cnt, evS_pas, evS_kil, evSs_nil, evSs_cons, sq_nx, sq_rt, sq_bk, sq_ct, sq_ex, evS_whl, evS_frs, evE_lc, bnd, sbnd, obnd, raw, res, resL, rawL, valsL, anyBor, opBin, opCmp, opBi, biAbs, biInt, biStr, biLen, biList, biSum, biMax, biMin, biAll, Itr.bk, putBack, itemsOf, hkGo, boolsOf, opNeg, opNot, ixD, slD, litD, atom, isD, D.share, shareL, D.isHole, D.whole, wholeL, D.noOw, noOwL, D.noSh, noShL, stIx, owAt, asB, setTg, putE, mutD, mtAppend, mtExtend, mtPop, mtClear, mtInsert, kill, List.foldl_cons, List.foldl_nil, List.getElem?_cons_zero, List.getElem?_cons_succ, List.getElem?_nil, List.set_cons_zero, List.set_cons_succ, List.length_cons, List.length_nil, Bool.and_true, Bool.true_and, Bool.and_false, Bool.false_and, Bool.not_true, Bool.not_false, cond_true, cond_false, if_true, if_false, ite_true, ite_false, reduceIte, reduceCtorEq, Bool.false_eq_true, startE, List.replicate, List.append_eq, List.nil_append, List.cons_append, List.append_nil, fin, TV.atI0, TV.atI1, Option.bind_some, Option.map_some, Bool.and_self, Bool.or_self, Nat.reduceSub, Nat.reduceAdd, Nat.reduceEqDiff, Bool.not_eq_true, Bool.and_eq_true, decide_true, decide_false, real_eq_int, real_eq_bl, real_eq_non, real_eq_enc, real_eq_enc2, eqD_int, eqD_bl, eqD_pair, Int.reduceEq, Int.reduceToNat, Int.reduceLE, Int.reduceLT, nab10, nab2, castn0, castn1, castn2, castn3, castn4, castn5, Nat.reduceLT, and_self, and_true, true_and, and_false, false_and, if_pos trivial, not_true_eq_false, not_false_eq_true, Bool.or_true, Bool.or_false, Bool.true_or, Bool.false_or, hL, at1, j1, j2, j3, j4, g1, g2, hr]
theorem joined_ok {p q : Rat} (hp : Rb 60 p) (hq : Rb 60 q) (c : Int) : run real (excOf exs) (fun x => gl.lookup x) T (n + 6) "_law_joined" [enc p, enc q, .int c] = some (.ok (.bl true)) := by
  have q1 := Int.fmod_nonneg_of_pos c (b := 13) (by decide)
  have q2 := Int.fmod_lt_of_pos c (b := 13) (by decide)
  obtain ⟨i, hi⟩ : ∃ i : Nat, c.fmod 13 = (i : Int) := Int.eq_ofNat_of_zero_le q1
  have hil : i < oddL.length := by show i < 13; omega
  obtain ⟨d, hd⟩ : ∃ d, oddL[i]? = some d := ⟨_, List.getElem?_eq_getElem hil⟩
  have hmem : d ∈ oddL := List.mem_of_getElem? hd
  have at1 : atI oddL (c.fmod 13) = some d := by rw [hi, TV.atI_nat]; exact hd
  have e := low (n := n + 4) (p.num * q.den + q.num * p.den) (p.den * q.den) (Int.mul_pos (den_pos p) (den_pos q))
  rw [add_divInt] at e
  have hlt := Rat.lt_iff p q
  have hgt := Rat.lt_iff q p
  have J := fun (kind : Str) (hk : kind = "far" ∨ kind = "sum" ∨ kind = "square") {x y : Rat} (hx : Rb 60 x) (hy : Rb 60 y) => run_joined (exc := excOf exs) (glb := fun x => gl.lookup x) (T := T) (n := n + 1) rfl rfl rfl rfl rfl kind hk hx hy (by decide)
  have j1 := J "far" (.inl rfl) hp hq
  have j2 := J "far" (.inl rfl) hq hp
  have j3 := J "sum" (.inr (.inl rfl)) hp hq
  have j4 := J "square" (.inr (.inr rfl)) hp hq
  have d1 : joinQ "far" p q = if p.num * (q.den : Int) < q.num * (p.den : Int) then q else p := by
    unfold joinQ
    rw [if_pos rfl]
    by_cases z : p < q
    · rw [if_pos z, if_pos (hlt.mp z)]
    · rw [if_neg z, if_neg (fun h => z (hlt.mpr h))]
  have d2 : joinQ "far" q p = if p.num * (q.den : Int) < q.num * (p.den : Int) then q else p := by
    rw [← d1]
    unfold joinQ
    rw [if_pos rfl, if_pos rfl]
    by_cases z : p < q
    · rw [if_pos z, if_neg (by grind)]
    · rw [if_neg z]
      by_cases z2 : q < p
      · rw [if_pos z2]
      · rw [if_neg z2]; grind
  have d3 : joinQ "sum" p q = p + q := rfl
  have d4 : joinQ "square" p q = p + q := rfl
  rw [d1] at j1
  rw [d2] at j2
  rw [d3] at j3
  rw [d4] at j4
  have eA := joinA (Cn (n + 5)) rfl (run real (excOf exs) (fun x => gl.lookup x) T (n + 5)) rfl p q _ (p + q) c (mul_real hp.1 hq.2 (by decide)) (mul_real hq.1 hp.2 (by decide)) (mul_real hp.2 hq.2 (by decide)) rfl e
  have eB := joinB (Cn (n + 5)) rfl (run real (excOf exs) (fun x => gl.lookup x) T (n + 5)) rfl p q _ (p + q) c d hmem at1 j1 j2 j3 j4 (good (n := n + 2) _) (good (n := n + 2) _) (refused (n := n + 3) d hmem p q)
  rw [run_eq (f := "_law_joined") (d := f__law_joined) rfl rfl]
  show fin (evSs (Cn (n + 5)) c__law_joined [enc p, enc q, .int c, .hole, .hole, .hole]) = _
  rw [evSs_split _ 4, eA, sq_nx, eB]
theorem cost_ok (c o : Int) (hc : Bd (2 ^ 21) c) (ho : Bd (2 ^ 21) o) : ∃ q : Rat, Rb 60 q ∧ run real (excOf exs) (fun x => gl.lookup x) T (n + 2) "_law_cost_by" [.int c, .int o] = some (.ok (enc q)) := by
  have ab : ∀ x : Int, Bd (2 ^ 21) x → Bd (2 ^ 21) (if x < 0 then -x else x) := fun x h => by
    split
    · exact h.neg
    · exact h
  generalize hca : (if c < 0 then -c else c) = ca at *
  generalize hoa : (if o < 0 then -o else o) = oa at *
  have bca := ab c hc
  have boa := ab o ho
  rw [hca] at bca
  rw [hoa] at boa
  have z1 := Int.fmod_nonneg_of_pos (ca * 48271) (b := 10 ^ 12) (by decide)
  have z2 := Int.fmod_nonneg_of_pos (oa * 16811) (b := 999983) (by decide)
  have e := low (n := n) ((ca * 48271).fmod (10 ^ 12)) (1 + (oa * 16811).fmod 999983) (by omega)
  have m1 : real.mul ca 48271 = true := mul_real (n := 2 ^ 21) (m := 16) bca (by decide) (by decide)
  have m2 : real.mul oa 16811 = true := mul_real (n := 2 ^ 21) (m := 16) boa (by decide) (by decide)
  have p12 : ((10 : Int) ^ 12) ≠ 0 := by decide
  have hb : Rb 60 (Rat.divInt ((ca * 48271).fmod (10 ^ 12)) (1 + (oa * 16811).fmod 999983)) := Rb.divInt ((fmod_bd (n := 40) (by decide) (by decide)).mono (by decide)) ((Bd.add (n := 1) (m := 20) (by decide) (fmod_bd (by decide) (by decide))).mono (by decide)) (by omega)
  refine ⟨Rat.divInt ((ca * 48271).fmod (10 ^ 12)) (1 + (oa * 16811).fmod 999983), hb, ?_⟩
  rw [run_eq (f := "_law_cost_by") (d := f__law_cost_by) rfl rfl]
  generalize Rat.divInt ((ca * 48271).fmod (10 ^ 12)) (1 + (oa * 16811).fmod 999983) = z at *
  unfold enc at *
  simp only [c__law_cost_by, f__law_cost_by, evE_mv, evE_fr, evE_bo, evE_lit, evE_glb, evE_shr, evE_bin, evE_neg, evE_not, evE_and, evE_or, evE_cmp, evE_ix, evE_pth, evE_sl, evE_tup, evE_lst, evE_call, evE_bi, evE_isi, evE_pop, evE_lrv, evE_lrg, evEs_nil, evEs_cons, evEo_no, evEo_so, evC_no, evC_so, evIt_list, evIt_rg1, evIt_rg2, evIt_rg3, evIt_rev, evIt_zip, evIt_enum, evIt_str, evIt_brw, evIt_tupi, evS_asg, evS_unp, evS_par, evS_swp, evS_set1, evS_aug, evS_mut0, evS_ex, evS_ifs, evS_scn, evS_ret, evS_rse, evS_try1, evS_try2, evS_brk, evS_cnt, evS_pas, evS_kil, evSs_nil, evSs_cons, sq_nx, sq_rt, sq_bk, sq_ct, sq_ex, evS_whl, evS_frs, evE_lc, bnd, sbnd, obnd, raw, res, resL, rawL, valsL, anyBor, opBin, opCmp, opBi, biAbs, biInt, biStr, biLen, biList, biSum, biMax, biMin, biAll, Itr.bk, putBack, itemsOf, hkGo, boolsOf, opNeg, opNot, ixD, slD, litD, atom, isD, D.share, shareL, D.isHole, D.whole, wholeL, D.noOw, noOwL, D.noSh, noShL, stIx, owAt, asB, setTg, putE, mutD, mtAppend, mtExtend, mtPop, mtClear, mtInsert, kill, List.foldl_cons, List.foldl_nil, List.getElem?_cons_zero, List.getElem?_cons_succ, List.getElem?_nil, List.set_cons_zero, List.set_cons_succ, List.length_cons, List.length_nil, Bool.and_true, Bool.true_and, Bool.and_false, Bool.false_and, Bool.not_true, Bool.not_false, cond_true, cond_false, if_true, if_false, ite_true, ite_false, reduceIte, reduceCtorEq, Bool.false_eq_true, startE, List.replicate, List.append_eq, List.nil_append, List.cons_append, List.append_nil, fin, TV.atI0, TV.atI1, Option.bind_some, Option.map_some, Bool.and_self, Bool.or_self, Nat.reduceSub, Nat.reduceAdd, Nat.reduceEqDiff, Bool.not_eq_true, Bool.and_eq_true, decide_true, decide_false, real_eq_int, real_eq_bl, real_eq_non, real_eq_enc, real_eq_enc2, eqD_int, eqD_bl, eqD_pair, Int.reduceEq, Int.reduceToNat, Int.reduceLE, Int.reduceLT, nab10, nab2, castn0, castn1, castn2, castn3, castn4, castn5, Nat.reduceLT, and_self, and_true, true_and, and_false, false_and, if_pos trivial, not_true_eq_false, not_false_eq_true, Bool.or_true, Bool.or_false, Bool.true_or, Bool.false_or, hca, hoa, m1, m2, p12, e]
-- the first loop
theorem a32 (a b c : D) : atI [a, b, c] 2 = some c := atI_nat [a, b, c] 2
abbrev lb : Ss := (nthS 0 c_law).bodyOf
theorem cells_comp (C : TV.Ctx) (hL : C.L = real) (rn : Str → List D → Option CRes) (hrn : C.call = rn) (l : List D) (k : Int) (f : Nat → Int) (e : ∀ j : Nat, j < 3 → rn "_law_cell" [.lst .fz l, .int (k + (j : Int))] = some (.ok (.int (f j)))) :
    evE C (.lc (.call "_law_cell" (.cons (.bo 0) (.cons (.bin .Add (.bo 1) (.bo 10)) .nil))) (.one 10) (.rg1 (.lit (.int 3))) .no [10]) [.lst .fz l, .int k, .hole, .hole, .hole, .hole, .hole, .hole, .hole, .hole, .hole] = some (.ok (.val (.lst .ow [.int (f 0), .int (f 1), .int (f 2)])) [.lst .fz l, .int k, .hole, .hole, .hole, .hole, .hole, .hole, .hole, .hole, .hole]) := by
  subst hrn
  have hcm := comp_all (C := C) (elt := .call "_law_cell" (.cons (.bo 0) (.cons (.bin .Add (.bo 1) (.bo 10)) .nil))) (tg := .one 10) (cond := .no) (own := [10]) (fun j : Nat => D.int (0 + (j : Int) * 1)) (fun j => some (.int (f j))) [.lst .fz l, .int k, .hole, .hole, .hole, .hole, .hole, .hole, .hole, .hole, .hole] (List.range 3) (fun j hj => by
    have e := e j (List.mem_range.mp hj)
    rw [show (0 : Int) + (j : Int) * 1 = (j : Int) by omega]
    refine ⟨[.lst .fz l, .int k, .hole, .hole, .hole, .hole, .hole, .hole, .hole, .hole, .int (j : Int)], fun env henv => ?_, rfl⟩
    rw [lcF_at, henv]
    simp only [evE_mv, evE_fr, evE_bo, evE_lit, evE_glb, evE_shr, evE_bin, evE_neg, evE_not, evE_and, evE_or, evE_cmp, evE_ix, evE_pth, evE_sl, evE_tup, evE_lst, evE_call, evE_bi, evE_isi, evE_pop, evE_lrv, evE_lrg, evEs_nil, evEs_cons, evEo_no, evEo_so, evC_no, evC_so, evIt_list, evIt_rg1, evIt_rg2, evIt_rg3, evIt_rev, evIt_zip, evIt_enum, evIt_str, evIt_brw, evIt_tupi, evS_asg, evS_unp, evS_par, evS_swp, evS_set1, evS_aug, evS_mut0, evS_ex, evS_ifs, evS_scn, evS_ret, evS_rse, evS_try1, evS_try2, evS_brk, evS_cnt, evS_pas, evS_kil, evSs_nil, evSs_cons, sq_nx, sq_rt, sq_bk, sq_ct, sq_ex, evS_whl, evS_frs, evE_lc, bnd, sbnd, obnd, raw, res, resL, rawL, valsL, anyBor, opBin, opCmp, opBi, biAbs, biInt, biStr, biLen, biList, biSum, biMax, biMin, biAll, Itr.bk, putBack, itemsOf, hkGo, boolsOf, opNeg, opNot, ixD, slD, litD, atom, isD, D.share, shareL, D.isHole, D.whole, wholeL, D.noOw, noOwL, D.noSh, noShL, stIx, owAt, asB, setTg, putE, mutD, mtAppend, mtExtend, mtPop, mtClear, mtInsert, kill, List.foldl_cons, List.foldl_nil, List.getElem?_cons_zero, List.getElem?_cons_succ, List.getElem?_nil, List.set_cons_zero, List.set_cons_succ, List.length_cons, List.length_nil, Bool.and_true, Bool.true_and, Bool.and_false, Bool.false_and, Bool.not_true, Bool.not_false, cond_true, cond_false, if_true, if_false, ite_true, ite_false, reduceIte, reduceCtorEq, Bool.false_eq_true, startE, List.replicate, List.append_eq, List.nil_append, List.cons_append, List.append_nil, fin, TV.atI0, TV.atI1, Option.bind_some, Option.map_some, Bool.and_self, Bool.or_self, Nat.reduceSub, Nat.reduceAdd, Nat.reduceEqDiff, Bool.not_eq_true, Bool.and_eq_true, decide_true, decide_false, real_eq_int, real_eq_bl, real_eq_non, real_eq_enc, real_eq_enc2, eqD_int, eqD_bl, eqD_pair, Int.reduceEq, Int.reduceToNat, Int.reduceLE, Int.reduceLT, nab10, nab2, castn0, castn1, castn2, castn3, castn4, castn5, Nat.reduceLT, and_self, and_true, true_and, and_false, false_and, if_pos trivial, not_true_eq_false, not_false_eq_true, Bool.or_true, Bool.or_false, Bool.true_or, Bool.false_or, hL, e]) [.lst .fz l, .int k, .hole, .hole, .hole, .hole, .hole, .hole, .hole, .hole, .hole] rfl
  have hit : evIt C (.rg1 (.lit (.int 3))) [.lst .fz l, .int k, .hole, .hole, .hole, .hole, .hole, .hole, .hole, .hole, .hole] = some (.ok ([], rgD 0 3 1) [.lst .fz l, .int k, .hole, .hole, .hole, .hole, .hole, .hole, .hole, .hole, .hole]) :=
    rg1_of (t := .val (.int 3)) (n := 3) rfl rfl (by rw [hL]; decide +kernel)
  rw [lc_of hit (by rw [hL]; exact real_len (by rw [rgD_len]; omega)) hcm, List.filterMap_eq_map']
  rfl
theorem turnA (C : TV.Ctx) (hL : C.L = real) (rn : Str → List D → Option CRes) (hrn : C.call = rn) (l : List D) (k c0 c1 c2 : Int) (p q : Rat) (hlc : evE C (.lc (.call "_law_cell" (.cons (.bo 0) (.cons (.bin .Add (.bo 1) (.bo 10)) .nil))) (.one 10) (.rg1 (.lit (.int 3))) .no [10]) [.lst .fz l, .int k, .hole, .hole, .hole, .hole, .hole, .hole, .hole, .hole, .hole] = some (.ok (.val (.lst .ow [.int c0, .int c1, .int c2])) [.lst .fz l, .int k, .hole, .hole, .hole, .hole, .hole, .hole, .hole, .hole, .hole]))
    (e1 : rn "_law_cost_by" [.int c0, .int c2] = some (.ok (enc p))) (e2 : rn "_law_cost_by" [.int c1, .int (c2.fdiv 7)] = some (.ok (enc q))) (e3 : rn "_law_joined" [enc p, enc p, .int (c2.fdiv 4)] = some (.ok (.bl true))) (e4 : rn "_law_joined" [enc p, enc q, .int (c2.fdiv 4)] = some (.ok (.bl true))) :
    bodF C (.one 1) lb (.int k) [.lst .fz l, .hole, .hole, .hole, .hole, .hole, .hole, .hole, .hole, .hole, .hole] = some (.nx [.lst .fz l, .hole, .hole, .hole, .hole, .hole, .hole, .hole, .hole, .hole, .hole]) := by
  subst hrn
  show evSs C (.cons (.asg 6 (.lc (.call "_law_cell" (.cons (.bo 0) (.cons (.bin .Add (.bo 1) (.bo 10)) .nil))) (.one 10) (.rg1 (.lit (.int 3))) .no [10])) (dropS 1 lb)) [.lst .fz l, .int k, .hole, .hole, .hole, .hole, .hole, .hole, .hole, .hole, .hole] = _
  rw [evSs_cons, evS_asg, hlc]
  unfold enc at *
  by_cases z : c2.fmod 4 = 1
  · have z := eq_true z
    simp only [lb, c_law, nthS, S.bodyOf, dropS, evE_mv, evE_fr, evE_bo, evE_lit, evE_glb, evE_shr, evE_bin, evE_neg, evE_not, evE_and, evE_or, evE_cmp, evE_ix, evE_pth, evE_sl, evE_tup, evE_lst, evE_call, evE_bi, evE_isi, evE_pop, evE_lrv, evE_lrg, evEs_nil, evEs_cons, evEo_no, evEo_so, evC_no, evC_so, evIt_list, evIt_rg1, evIt_rg2, evIt_rg3, evIt_rev, evIt_zip, evIt_enum, evIt_str, evIt_brw, evIt_tupi, evS_asg, evS_unp, evS_par, evS_swp, evS_set1, evS_aug, evS_mut0, evS_ex, evS_ifs, evS_scn, evS_ret, evS_rse, evS_try1, evS_try2, evS_brk, evS_cnt, evS_pas, evS_kil, evSs_nil, evSs_cons, sq_nx, sq_rt, sq_bk, sq_ct, sq_ex, evS_whl, evS_frs, bnd, sbnd, obnd, raw, res, resL, rawL, valsL, anyBor, opBin, opCmp, opBi, biAbs, biInt, biStr, biLen, biList, biSum, biMax, biMin, biAll, Itr.bk, putBack, itemsOf, hkGo, boolsOf, opNeg, opNot, ixD, slD, litD, atom, isD, D.share, shareL, D.isHole, D.whole, wholeL, D.noOw, noOwL, D.noSh, noShL, stIx, owAt, asB, setTg, putE, mutD, mtAppend, mtExtend, mtPop, mtClear, mtInsert, kill, List.foldl_cons, List.foldl_nil, List.getElem?_cons_zero, List.getElem?_cons_succ, List.getElem?_nil, List.set_cons_zero, List.set_cons_succ, List.length_cons, List.length_nil, Bool.and_true, Bool.true_and, Bool.and_false, Bool.false_and, Bool.not_true, Bool.not_false, cond_true, cond_false, if_true, if_false, ite_true, ite_false, reduceIte, reduceCtorEq, Bool.false_eq_true, startE, List.replicate, List.append_eq, List.nil_append, List.cons_append, List.append_nil, fin, TV.atI0, TV.atI1, Option.bind_some, Option.map_some, Bool.and_self, Bool.or_self, Nat.reduceSub, Nat.reduceAdd, Nat.reduceEqDiff, Bool.not_eq_true, Bool.and_eq_true, decide_true, decide_false, real_eq_int, real_eq_bl, real_eq_non, real_eq_enc, real_eq_enc2, eqD_int, eqD_bl, eqD_pair, Int.reduceEq, Int.reduceToNat, Int.reduceLE, Int.reduceLT, nab10, nab2, castn0, castn1, castn2, castn3, castn4, castn5, Nat.reduceLT, and_self, and_true, true_and, and_false, false_and, if_pos trivial, not_true_eq_false, not_false_eq_true, Bool.or_true, Bool.or_false, Bool.true_or, Bool.false_or, hL, a32, e1, e2, e3, z]
  · have z := eq_false z
    simp only [lb, c_law, nthS, S.bodyOf, dropS, evE_mv, evE_fr, evE_bo, evE_lit, evE_glb, evE_shr, evE_bin, evE_neg, evE_not, evE_and, evE_or, evE_cmp, evE_ix, evE_pth, evE_sl, evE_tup, evE_lst, evE_call, evE_bi, evE_isi, evE_pop, evE_lrv, evE_lrg, evEs_nil, evEs_cons, evEo_no, evEo_so, evC_no, evC_so, evIt_list, evIt_rg1, evIt_rg2, evIt_rg3, evIt_rev, evIt_zip, evIt_enum, evIt_str, evIt_brw, evIt_tupi, evS_asg, evS_unp, evS_par, evS_swp, evS_set1, evS_aug, evS_mut0, evS_ex, evS_ifs, evS_scn, evS_ret, evS_rse, evS_try1, evS_try2, evS_brk, evS_cnt, evS_pas, evS_kil, evSs_nil, evSs_cons, sq_nx, sq_rt, sq_bk, sq_ct, sq_ex, evS_whl, evS_frs, bnd, sbnd, obnd, raw, res, resL, rawL, valsL, anyBor, opBin, opCmp, opBi, biAbs, biInt, biStr, biLen, biList, biSum, biMax, biMin, biAll, Itr.bk, putBack, itemsOf, hkGo, boolsOf, opNeg, opNot, ixD, slD, litD, atom, isD, D.share, shareL, D.isHole, D.whole, wholeL, D.noOw, noOwL, D.noSh, noShL, stIx, owAt, asB, setTg, putE, mutD, mtAppend, mtExtend, mtPop, mtClear, mtInsert, kill, List.foldl_cons, List.foldl_nil, List.getElem?_cons_zero, List.getElem?_cons_succ, List.getElem?_nil, List.set_cons_zero, List.set_cons_succ, List.length_cons, List.length_nil, Bool.and_true, Bool.true_and, Bool.and_false, Bool.false_and, Bool.not_true, Bool.not_false, cond_true, cond_false, if_true, if_false, ite_true, ite_false, reduceIte, reduceCtorEq, Bool.false_eq_true, startE, List.replicate, List.append_eq, List.nil_append, List.cons_append, List.append_nil, fin, TV.atI0, TV.atI1, Option.bind_some, Option.map_some, Bool.and_self, Bool.or_self, Nat.reduceSub, Nat.reduceAdd, Nat.reduceEqDiff, Bool.not_eq_true, Bool.and_eq_true, decide_true, decide_false, real_eq_int, real_eq_bl, real_eq_non, real_eq_enc, real_eq_enc2, eqD_int, eqD_bl, eqD_pair, Int.reduceEq, Int.reduceToNat, Int.reduceLE, Int.reduceLT, nab10, nab2, castn0, castn1, castn2, castn3, castn4, castn5, Nat.reduceLT, and_self, and_true, true_and, and_false, false_and, if_pos trivial, not_true_eq_false, not_false_eq_true, Bool.or_true, Bool.or_false, Bool.true_or, Bool.false_or, hL, a32, e1, e2, e4, z]
-- the row
abbrev rowE : E := .call "_law_lowest" (.cons (.bin .Sub (.bin .Mod (.bin .FloorDiv (.call "_law_cell" (.cons (.bo 0) (.cons (.bo 1) .nil))) (.bin .Add (.lit (.int 1)) (.bin .Mod (.bo 1) (.lit (.int 3))))) (.lit (.int 3))) (.lit (.int 1))) (.cons (.lit (.int 2)) .nil))
abbrev rowI : E := .bi .max (.cons (.lit (.int 1)) (.cons (.bi .min (.cons (.bi .len (.cons (.bo 0) .nil)) (.cons (.lit (.int 60)) .nil))) .nil))
theorem row_comp (C : TV.Ctx) (hL : C.L = real) (rn : Str → List D → Option CRes) (hrn : C.call = rn) (l : List D) (N : Nat) (hN : (if (if 60 < (l.length : Int) then 60 else (l.length : Int)) > 1 then (if 60 < (l.length : Int) then 60 else (l.length : Int)) else 1) = (N : Int)) (h100 : N ≤ 100) (x : Nat → Int) (q : Nat → Rat) (e1 : ∀ k : Nat, k < N → rn "_law_cell" [.lst .fz l, .int (k : Int)] = some (.ok (.int (x k)))) (e2 : ∀ k : Nat, k < N → rn "_law_lowest" [.int (((x k).fdiv (1 + (k : Int).fmod 3)).fmod 3 - 1), .int 2] = some (.ok (enc (q k)))) :
    evE C (.lc rowE (.one 1) (.rg1 rowI) .no [1]) [.lst .fz l, .hole, .hole, .hole, .hole, .hole, .hole, .hole, .hole, .hole, .hole] = some (.ok (.val (.lst .ow (((List.range N).map q).map enc))) [.lst .fz l, .hole, .hole, .hole, .hole, .hole, .hole, .hole, .hole, .hole, .hole]) := by
  subst hrn
  have hcm := comp_all (C := C) (elt := rowE) (tg := .one 1) (cond := .no) (own := [1]) (fun k : Nat => D.int (0 + (k : Int) * 1)) (fun k => some (enc (q k))) [.lst .fz l, .hole, .hole, .hole, .hole, .hole, .hole, .hole, .hole, .hole, .hole] (List.range N) (fun k hk => by
    have hk := List.mem_range.mp hk
    have e1 := e1 k hk
    have e2 := e2 k hk
    have nz := Int.fmod_nonneg_of_pos (k : Int) (b := 3) (by decide)
    have nz : ¬ (1 + (k : Int).fmod 3 = 0) := by omega
    rw [show (0 : Int) + (k : Int) * 1 = (k : Int) by omega]
    refine ⟨[.lst .fz l, .int (k : Int), .hole, .hole, .hole, .hole, .hole, .hole, .hole, .hole, .hole], fun env henv => ?_, rfl⟩
    rw [lcF_at, henv]
    unfold enc at *
    simp only [rowE, evE_mv, evE_fr, evE_bo, evE_lit, evE_glb, evE_shr, evE_bin, evE_neg, evE_not, evE_and, evE_or, evE_cmp, evE_ix, evE_pth, evE_sl, evE_tup, evE_lst, evE_call, evE_bi, evE_isi, evE_pop, evE_lrv, evE_lrg, evEs_nil, evEs_cons, evEo_no, evEo_so, evC_no, evC_so, evIt_list, evIt_rg1, evIt_rg2, evIt_rg3, evIt_rev, evIt_zip, evIt_enum, evIt_str, evIt_brw, evIt_tupi, evS_asg, evS_unp, evS_par, evS_swp, evS_set1, evS_aug, evS_mut0, evS_ex, evS_ifs, evS_scn, evS_ret, evS_rse, evS_try1, evS_try2, evS_brk, evS_cnt, evS_pas, evS_kil, evSs_nil, evSs_cons, sq_nx, sq_rt, sq_bk, sq_ct, sq_ex, evS_whl, evS_frs, evE_lc, bnd, sbnd, obnd, raw, res, resL, rawL, valsL, anyBor, opBin, opCmp, opBi, biAbs, biInt, biStr, biLen, biList, biSum, biMax, biMin, biAll, Itr.bk, putBack, itemsOf, hkGo, boolsOf, opNeg, opNot, ixD, slD, litD, atom, isD, D.share, shareL, D.isHole, D.whole, wholeL, D.noOw, noOwL, D.noSh, noShL, stIx, owAt, asB, setTg, putE, mutD, mtAppend, mtExtend, mtPop, mtClear, mtInsert, kill, List.foldl_cons, List.foldl_nil, List.getElem?_cons_zero, List.getElem?_cons_succ, List.getElem?_nil, List.set_cons_zero, List.set_cons_succ, List.length_cons, List.length_nil, Bool.and_true, Bool.true_and, Bool.and_false, Bool.false_and, Bool.not_true, Bool.not_false, cond_true, cond_false, if_true, if_false, ite_true, ite_false, reduceIte, reduceCtorEq, Bool.false_eq_true, startE, List.replicate, List.append_eq, List.nil_append, List.cons_append, List.append_nil, fin, TV.atI0, TV.atI1, Option.bind_some, Option.map_some, Bool.and_self, Bool.or_self, Nat.reduceSub, Nat.reduceAdd, Nat.reduceEqDiff, Bool.not_eq_true, Bool.and_eq_true, decide_true, decide_false, real_eq_int, real_eq_bl, real_eq_non, real_eq_enc, real_eq_enc2, eqD_int, eqD_bl, eqD_pair, Int.reduceEq, Int.reduceToNat, Int.reduceLE, Int.reduceLT, nab10, nab2, castn0, castn1, castn2, castn3, castn4, castn5, Nat.reduceLT, and_self, and_true, true_and, and_false, false_and, if_pos trivial, not_true_eq_false, not_false_eq_true, Bool.or_true, Bool.or_false, Bool.true_or, Bool.false_or, hL, e1, e2, nz]) [.lst .fz l, .hole, .hole, .hole, .hole, .hole, .hole, .hole, .hole, .hole, .hole] rfl
  have hit : evIt C (.rg1 rowI) [.lst .fz l, .hole, .hole, .hole, .hole, .hole, .hole, .hole, .hole, .hole, .hole] = some (.ok ([], rgD 0 N 1) [.lst .fz l, .hole, .hole, .hole, .hole, .hole, .hole, .hole, .hole, .hole, .hole]) :=
    rg1_of (t := .val (.int N)) (by simp only [rowI, evE_mv, evE_fr, evE_bo, evE_lit, evE_glb, evE_shr, evE_bin, evE_neg, evE_not, evE_and, evE_or, evE_cmp, evE_ix, evE_pth, evE_sl, evE_tup, evE_lst, evE_call, evE_bi, evE_isi, evE_pop, evE_lrv, evE_lrg, evEs_nil, evEs_cons, evEo_no, evEo_so, evC_no, evC_so, evIt_list, evIt_rg1, evIt_rg2, evIt_rg3, evIt_rev, evIt_zip, evIt_enum, evIt_str, evIt_brw, evIt_tupi, evS_asg, evS_unp, evS_par, evS_swp, evS_set1, evS_aug, evS_mut0, evS_ex, evS_ifs, evS_scn, evS_ret, evS_rse, evS_try1, evS_try2, evS_brk, evS_cnt, evS_pas, evS_kil, evSs_nil, evSs_cons, sq_nx, sq_rt, sq_bk, sq_ct, sq_ex, evS_whl, evS_frs, evE_lc, bnd, sbnd, obnd, raw, res, resL, rawL, valsL, anyBor, opBin, opCmp, opBi, biAbs, biInt, biStr, biLen, biList, biSum, biMax, biMin, biAll, Itr.bk, putBack, itemsOf, hkGo, boolsOf, opNeg, opNot, ixD, slD, litD, atom, isD, D.share, shareL, D.isHole, D.whole, wholeL, D.noOw, noOwL, D.noSh, noShL, stIx, owAt, asB, setTg, putE, mutD, mtAppend, mtExtend, mtPop, mtClear, mtInsert, kill, List.foldl_cons, List.foldl_nil, List.getElem?_cons_zero, List.getElem?_cons_succ, List.getElem?_nil, List.set_cons_zero, List.set_cons_succ, List.length_cons, List.length_nil, Bool.and_true, Bool.true_and, Bool.and_false, Bool.false_and, Bool.not_true, Bool.not_false, cond_true, cond_false, if_true, if_false, ite_true, ite_false, reduceIte, reduceCtorEq, Bool.false_eq_true, startE, List.replicate, List.append_eq, List.nil_append, List.cons_append, List.append_nil, fin, TV.atI0, TV.atI1, Option.bind_some, Option.map_some, Bool.and_self, Bool.or_self, Nat.reduceSub, Nat.reduceAdd, Nat.reduceEqDiff, Bool.not_eq_true, Bool.and_eq_true, decide_true, decide_false, real_eq_int, real_eq_bl, real_eq_non, real_eq_enc, real_eq_enc2, eqD_int, eqD_bl, eqD_pair, Int.reduceEq, Int.reduceToNat, Int.reduceLE, Int.reduceLT, nab10, nab2, castn0, castn1, castn2, castn3, castn4, castn5, Nat.reduceLT, and_self, and_true, true_and, and_false, false_and, if_pos trivial, not_true_eq_false, not_false_eq_true, Bool.or_true, Bool.or_false, Bool.true_or, Bool.false_or, hL, hN]) rfl (by rw [hL]; exact real_rng (by omega) (by omega))
  rw [lc_of hit (by rw [hL]; exact real_len (by rw [rgD_len]; omega)) hcm, List.filterMap_eq_map', List.map_map]; rfl
-- the steps
abbrev db : Ss := (nthS 4 c_law).bodyOf
theorem db_turn (C : TV.Ctx) (hL : C.L = real) (l r : List D) (a : Int) (x y : Rat) (i : Int) (a1 : atI r i = some (enc x)) (a2 : atI r (i - 1) = some (enc y)) :
    bodF C (.one 1) db (.int i) [.lst .fz l, .hole, .lst .ow r, .int a, .hole, .hole, .hole, .hole, .hole, .hole, .hole] = some (.nx [.lst .fz l, .hole, .lst .ow r, .int (a + if (!decide (x = y)) = true then 1 else 0), .hole, .hole, .hole, .hole, .hole, .hole, .hole]) := by
  have q := eqD_enc x y
  by_cases c : x = y
  · rw [decide_eq_true c] at q ⊢
    unfold enc at *
    simp only [bodF, db, c_law, nthS, S.bodyOf, evE_mv, evE_fr, evE_bo, evE_lit, evE_glb, evE_shr, evE_bin, evE_neg, evE_not, evE_and, evE_or, evE_cmp, evE_ix, evE_pth, evE_sl, evE_tup, evE_lst, evE_call, evE_bi, evE_isi, evE_pop, evE_lrv, evE_lrg, evEs_nil, evEs_cons, evEo_no, evEo_so, evC_no, evC_so, evIt_list, evIt_rg1, evIt_rg2, evIt_rg3, evIt_rev, evIt_zip, evIt_enum, evIt_str, evIt_brw, evIt_tupi, evS_asg, evS_unp, evS_par, evS_swp, evS_set1, evS_aug, evS_mut0, evS_ex, evS_ifs, evS_scn, evS_ret, evS_rse, evS_try1, evS_try2, evS_brk, evS_cnt, evS_pas, evS_kil, evSs_nil, evSs_cons, sq_nx, sq_rt, sq_bk, sq_ct, sq_ex, evS_whl, evS_frs, evE_lc, bnd, sbnd, obnd, raw, res, resL, rawL, valsL, anyBor, opBin, opCmp, opBi, biAbs, biInt, biStr, biLen, biList, biSum, biMax, biMin, biAll, Itr.bk, putBack, itemsOf, hkGo, boolsOf, opNeg, opNot, ixD, slD, litD, atom, isD, D.share, shareL, D.isHole, D.whole, wholeL, D.noOw, noOwL, D.noSh, noShL, stIx, owAt, asB, setTg, putE, mutD, mtAppend, mtExtend, mtPop, mtClear, mtInsert, kill, List.foldl_cons, List.foldl_nil, List.getElem?_cons_zero, List.getElem?_cons_succ, List.getElem?_nil, List.set_cons_zero, List.set_cons_succ, List.length_cons, List.length_nil, Bool.and_true, Bool.true_and, Bool.and_false, Bool.false_and, Bool.not_true, Bool.not_false, cond_true, cond_false, if_true, if_false, ite_true, ite_false, reduceIte, reduceCtorEq, Bool.false_eq_true, startE, List.replicate, List.append_eq, List.nil_append, List.cons_append, List.append_nil, fin, TV.atI0, TV.atI1, Option.bind_some, Option.map_some, Bool.and_self, Bool.or_self, Nat.reduceSub, Nat.reduceAdd, Nat.reduceEqDiff, Bool.not_eq_true, Bool.and_eq_true, decide_true, decide_false, real_eq_int, real_eq_bl, real_eq_non, real_eq_enc, real_eq_enc2, eqD_int, eqD_bl, eqD_pair, Int.reduceEq, Int.reduceToNat, Int.reduceLE, Int.reduceLT, nab10, nab2, castn0, castn1, castn2, castn3, castn4, castn5, Nat.reduceLT, and_self, and_true, true_and, and_false, false_and, if_pos trivial, not_true_eq_false, not_false_eq_true, Bool.or_true, Bool.or_false, Bool.true_or, Bool.false_or, hL, a1, a2, q]
  · rw [decide_eq_false c] at q ⊢
    unfold enc at *
    simp only [bodF, db, c_law, nthS, S.bodyOf, evE_mv, evE_fr, evE_bo, evE_lit, evE_glb, evE_shr, evE_bin, evE_neg, evE_not, evE_and, evE_or, evE_cmp, evE_ix, evE_pth, evE_sl, evE_tup, evE_lst, evE_call, evE_bi, evE_isi, evE_pop, evE_lrv, evE_lrg, evEs_nil, evEs_cons, evEo_no, evEo_so, evC_no, evC_so, evIt_list, evIt_rg1, evIt_rg2, evIt_rg3, evIt_rev, evIt_zip, evIt_enum, evIt_str, evIt_brw, evIt_tupi, evS_asg, evS_unp, evS_par, evS_swp, evS_set1, evS_aug, evS_mut0, evS_ex, evS_ifs, evS_scn, evS_ret, evS_rse, evS_try1, evS_try2, evS_brk, evS_cnt, evS_pas, evS_kil, evSs_nil, evSs_cons, sq_nx, sq_rt, sq_bk, sq_ct, sq_ex, evS_whl, evS_frs, evE_lc, bnd, sbnd, obnd, raw, res, resL, rawL, valsL, anyBor, opBin, opCmp, opBi, biAbs, biInt, biStr, biLen, biList, biSum, biMax, biMin, biAll, Itr.bk, putBack, itemsOf, hkGo, boolsOf, opNeg, opNot, ixD, slD, litD, atom, isD, D.share, shareL, D.isHole, D.whole, wholeL, D.noOw, noOwL, D.noSh, noShL, stIx, owAt, asB, setTg, putE, mutD, mtAppend, mtExtend, mtPop, mtClear, mtInsert, kill, List.foldl_cons, List.foldl_nil, List.getElem?_cons_zero, List.getElem?_cons_succ, List.getElem?_nil, List.set_cons_zero, List.set_cons_succ, List.length_cons, List.length_nil, Bool.and_true, Bool.true_and, Bool.and_false, Bool.false_and, Bool.not_true, Bool.not_false, cond_true, cond_false, if_true, if_false, ite_true, ite_false, reduceIte, reduceCtorEq, Bool.false_eq_true, startE, List.replicate, List.append_eq, List.nil_append, List.cons_append, List.append_nil, fin, TV.atI0, TV.atI1, Option.bind_some, Option.map_some, Bool.and_self, Bool.or_self, Nat.reduceSub, Nat.reduceAdd, Nat.reduceEqDiff, Bool.not_eq_true, Bool.and_eq_true, decide_true, decide_false, real_eq_int, real_eq_bl, real_eq_non, real_eq_enc, real_eq_enc2, eqD_int, eqD_bl, eqD_pair, Int.reduceEq, Int.reduceToNat, Int.reduceLE, Int.reduceLT, nab10, nab2, castn0, castn1, castn2, castn3, castn4, castn5, Nat.reduceLT, and_self, and_true, true_and, and_false, false_and, if_pos trivial, not_true_eq_false, not_false_eq_true, Bool.or_true, Bool.or_false, Bool.true_or, Bool.false_or, hL, a1, a2, q]
theorem count_fold (p : Nat → Bool) : ∀ (l : List Nat) (a : Int), l.foldl (fun a k => a + if p k = true then 1 else 0) a = a + (l.countP p : Int)
  | [], a => by simp
  | k :: l, a => by
    rw [List.foldl_cons, count_fold p l, List.countP_cons]
    cases p k <;> simp <;> omega
-- the end
abbrev sb : Ss := (nthS 7 c_law).bodyOf
theorem sb_turn (C : TV.Ctx) (hL : C.L = real) (rn : Str → List D → Option CRes) (hrn : C.call = rn) (l r s : List D) (a : Int) (e1 : rn "steps_of" [.lst .sh s] = some (.ok (.int a))) (e2 : rn "_law_whole" [.int a] = some (.ok (.bl true))) (ss : shareL s = s) :
    bodF C (.one 5) sb (.lst .sh s) [.lst .fz l, .hole, .lst .ow r, .int a, .lst .sh r, .hole, .hole, .hole, .hole, .hole, .hole] = some (.nx [.lst .fz l, .hole, .lst .ow r, .int a, .lst .sh r, .hole, .hole, .hole, .hole, .hole, .hole]) := by
  subst hrn
  have q : decide (a = a) = true := decide_eq_true rfl
  simp only [bodF, sb, c_law, nthS, S.bodyOf, evE_mv, evE_fr, evE_bo, evE_lit, evE_glb, evE_shr, evE_bin, evE_neg, evE_not, evE_and, evE_or, evE_cmp, evE_ix, evE_pth, evE_sl, evE_tup, evE_lst, evE_call, evE_bi, evE_isi, evE_pop, evE_lrv, evE_lrg, evEs_nil, evEs_cons, evEo_no, evEo_so, evC_no, evC_so, evIt_list, evIt_rg1, evIt_rg2, evIt_rg3, evIt_rev, evIt_zip, evIt_enum, evIt_str, evIt_brw, evIt_tupi, evS_asg, evS_unp, evS_par, evS_swp, evS_set1, evS_aug, evS_mut0, evS_ex, evS_ifs, evS_scn, evS_ret, evS_rse, evS_try1, evS_try2, evS_brk, evS_cnt, evS_pas, evS_kil, evSs_nil, evSs_cons, sq_nx, sq_rt, sq_bk, sq_ct, sq_ex, evS_whl, evS_frs, evE_lc, bnd, sbnd, obnd, raw, res, resL, rawL, valsL, anyBor, opBin, opCmp, opBi, biAbs, biInt, biStr, biLen, biList, biSum, biMax, biMin, biAll, Itr.bk, putBack, itemsOf, hkGo, boolsOf, opNeg, opNot, ixD, slD, litD, atom, isD, D.share, shareL, D.isHole, D.whole, wholeL, D.noOw, noOwL, D.noSh, noShL, stIx, owAt, asB, setTg, putE, mutD, mtAppend, mtExtend, mtPop, mtClear, mtInsert, kill, List.foldl_cons, List.foldl_nil, List.getElem?_cons_zero, List.getElem?_cons_succ, List.getElem?_nil, List.set_cons_zero, List.set_cons_succ, List.length_cons, List.length_nil, Bool.and_true, Bool.true_and, Bool.and_false, Bool.false_and, Bool.not_true, Bool.not_false, cond_true, cond_false, if_true, if_false, ite_true, ite_false, reduceIte, reduceCtorEq, Bool.false_eq_true, startE, List.replicate, List.append_eq, List.nil_append, List.cons_append, List.append_nil, fin, TV.atI0, TV.atI1, Option.bind_some, Option.map_some, Bool.and_self, Bool.or_self, Nat.reduceSub, Nat.reduceAdd, Nat.reduceEqDiff, Bool.not_eq_true, Bool.and_eq_true, decide_true, decide_false, real_eq_int, real_eq_bl, real_eq_non, real_eq_enc, real_eq_enc2, eqD_int, eqD_bl, eqD_pair, Int.reduceEq, Int.reduceToNat, Int.reduceLE, Int.reduceLT, nab10, nab2, castn0, castn1, castn2, castn3, castn4, castn5, Nat.reduceLT, and_self, and_true, true_and, and_false, false_and, if_pos trivial, not_true_eq_false, not_false_eq_true, Bool.or_true, Bool.or_false, Bool.true_or, Bool.false_or, hL, e1, e2, ss]
theorem it1_ok (C : TV.Ctx) (hL : C.L = real) (l : List D) (M : Nat) (hM : (if (if 60 < (l.length : Int) then 60 else (l.length : Int)) > 3 then (if 60 < (l.length : Int) then 60 else (l.length : Int)) else 3) = (M : Int)) (hM60 : M ≤ 60) :
    evIt C (.rg3 (.lit (.int 0)) (.bi .max (.cons (.lit (.int 3)) (.cons (.bi .min (.cons (.bi .len (.cons (.bo 0) .nil)) (.cons (.lit (.int 60)) .nil))) .nil))) (.lit (.int 3))) [.lst .fz l, .hole, .hole, .hole, .hole, .hole, .hole, .hole, .hole, .hole, .hole] = some (.ok ([], rgD 0 (rgN 0 (M : Int) 3) 3) [.lst .fz l, .hole, .hole, .hole, .hole, .hole, .hole, .hole, .hole, .hole, .hole]) :=
  rg3_of (t1 := .val (.int 0)) (t2 := .val (.int M)) (t3 := .val (.int 3)) (e1 := [.lst .fz l, .hole, .hole, .hole, .hole, .hole, .hole, .hole, .hole, .hole, .hole]) (e2 := [.lst .fz l, .hole, .hole, .hole, .hole, .hole, .hole, .hole, .hole, .hole, .hole]) rfl (by simp only [evE_mv, evE_fr, evE_bo, evE_lit, evE_glb, evE_shr, evE_bin, evE_neg, evE_not, evE_and, evE_or, evE_cmp, evE_ix, evE_pth, evE_sl, evE_tup, evE_lst, evE_call, evE_bi, evE_isi, evE_pop, evE_lrv, evE_lrg, evEs_nil, evEs_cons, evEo_no, evEo_so, evC_no, evC_so, evIt_list, evIt_rg1, evIt_rg2, evIt_rg3, evIt_rev, evIt_zip, evIt_enum, evIt_str, evIt_brw, evIt_tupi, evS_asg, evS_unp, evS_par, evS_swp, evS_set1, evS_aug, evS_mut0, evS_ex, evS_ifs, evS_scn, evS_ret, evS_rse, evS_try1, evS_try2, evS_brk, evS_cnt, evS_pas, evS_kil, evSs_nil, evSs_cons, sq_nx, sq_rt, sq_bk, sq_ct, sq_ex, evS_whl, evS_frs, evE_lc, bnd, sbnd, obnd, raw, res, resL, rawL, valsL, anyBor, opBin, opCmp, opBi, biAbs, biInt, biStr, biLen, biList, biSum, biMax, biMin, biAll, Itr.bk, putBack, itemsOf, hkGo, boolsOf, opNeg, opNot, ixD, slD, litD, atom, isD, D.share, shareL, D.isHole, D.whole, wholeL, D.noOw, noOwL, D.noSh, noShL, stIx, owAt, asB, setTg, putE, mutD, mtAppend, mtExtend, mtPop, mtClear, mtInsert, kill, List.foldl_cons, List.foldl_nil, List.getElem?_cons_zero, List.getElem?_cons_succ, List.getElem?_nil, List.set_cons_zero, List.set_cons_succ, List.length_cons, List.length_nil, Bool.and_true, Bool.true_and, Bool.and_false, Bool.false_and, Bool.not_true, Bool.not_false, cond_true, cond_false, if_true, if_false, ite_true, ite_false, reduceIte, reduceCtorEq, Bool.false_eq_true, startE, List.replicate, List.append_eq, List.nil_append, List.cons_append, List.append_nil, fin, TV.atI0, TV.atI1, Option.bind_some, Option.map_some, Bool.and_self, Bool.or_self, Nat.reduceSub, Nat.reduceAdd, Nat.reduceEqDiff, Bool.not_eq_true, Bool.and_eq_true, decide_true, decide_false, real_eq_int, real_eq_bl, real_eq_non, real_eq_enc, real_eq_enc2, eqD_int, eqD_bl, eqD_pair, Int.reduceEq, Int.reduceToNat, Int.reduceLE, Int.reduceLT, nab10, nab2, castn0, castn1, castn2, castn3, castn4, castn5, Nat.reduceLT, and_self, and_true, true_and, and_false, false_and, if_pos trivial, not_true_eq_false, not_false_eq_true, Bool.or_true, Bool.or_false, Bool.true_or, Bool.false_or, hM]) rfl rfl rfl rfl (by rw [hL]; decide +kernel) (by rw [hL]; exact real_rng (by omega) (by omega)) (by decide +kernel)
theorem lawA (C : TV.Ctx) (l : List D) (items : List D) (h1 : evIt C (.rg3 (.lit (.int 0)) (.bi .max (.cons (.lit (.int 3)) (.cons (.bi .min (.cons (.bi .len (.cons (.bo 0) .nil)) (.cons (.lit (.int 60)) .nil))) .nil))) (.lit (.int 3))) [.lst .fz l, .hole, .hole, .hole, .hole, .hole, .hole, .hole, .hole, .hole, .hole] = some (.ok ([], items) [.lst .fz l, .hole, .hole, .hole, .hole, .hole, .hole, .hole, .hole, .hole, .hole])) (h2 : loopF C (.one 1) lb items [.lst .fz l, .hole, .hole, .hole, .hole, .hole, .hole, .hole, .hole, .hole, .hole] = some (.nx [.lst .fz l, .hole, .hole, .hole, .hole, .hole, .hole, .hole, .hole, .hole, .hole])) :
    evSs C (takeS 2 c_law) [.lst .fz l, .hole, .hole, .hole, .hole, .hole, .hole, .hole, .hole, .hole, .hole] = some (.nx [.lst .fz l, .hole, .hole, .hole, .hole, .hole, .hole, .hole, .hole, .hole, .hole]) := by
  show evSs C (.cons (.frs (.one 1) (.rg3 (.lit (.int 0)) (.bi .max (.cons (.lit (.int 3)) (.cons (.bi .min (.cons (.bi .len (.cons (.bo 0) .nil)) (.cons (.lit (.int 60)) .nil))) .nil))) (.lit (.int 3))) lb) (.cons (.kil [1, 6, 7, 8, 10]) .nil)) _ = _
  rw [evSs_cons, evS_frs, h1]
  simp only [sbnd]
  rw [h2, sq_nx]
  simp only [evE_mv, evE_fr, evE_bo, evE_lit, evE_glb, evE_shr, evE_bin, evE_neg, evE_not, evE_and, evE_or, evE_cmp, evE_ix, evE_pth, evE_sl, evE_tup, evE_lst, evE_call, evE_bi, evE_isi, evE_pop, evE_lrv, evE_lrg, evEs_nil, evEs_cons, evEo_no, evEo_so, evC_no, evC_so, evIt_list, evIt_rg1, evIt_rg2, evIt_rg3, evIt_rev, evIt_zip, evIt_enum, evIt_str, evIt_brw, evIt_tupi, evS_asg, evS_unp, evS_par, evS_swp, evS_set1, evS_aug, evS_mut0, evS_ex, evS_ifs, evS_scn, evS_ret, evS_rse, evS_try1, evS_try2, evS_brk, evS_cnt, evS_pas, evS_kil, evSs_nil, evSs_cons, sq_nx, sq_rt, sq_bk, sq_ct, sq_ex, evS_whl, evS_frs, evE_lc, bnd, sbnd, obnd, raw, res, resL, rawL, valsL, anyBor, opBin, opCmp, opBi, biAbs, biInt, biStr, biLen, biList, biSum, biMax, biMin, biAll, Itr.bk, putBack, itemsOf, hkGo, boolsOf, opNeg, opNot, ixD, slD, litD, atom, isD, D.share, shareL, D.isHole, D.whole, wholeL, D.noOw, noOwL, D.noSh, noShL, stIx, owAt, asB, setTg, putE, mutD, mtAppend, mtExtend, mtPop, mtClear, mtInsert, kill, List.foldl_cons, List.foldl_nil, List.getElem?_cons_zero, List.getElem?_cons_succ, List.getElem?_nil, List.set_cons_zero, List.set_cons_succ, List.length_cons, List.length_nil, Bool.and_true, Bool.true_and, Bool.and_false, Bool.false_and, Bool.not_true, Bool.not_false, cond_true, cond_false, if_true, if_false, ite_true, ite_false, reduceIte, reduceCtorEq, Bool.false_eq_true, startE, List.replicate, List.append_eq, List.nil_append, List.cons_append, List.append_nil, fin, TV.atI0, TV.atI1, Option.bind_some, Option.map_some, Bool.and_self, Bool.or_self, Nat.reduceSub, Nat.reduceAdd, Nat.reduceEqDiff, Bool.not_eq_true, Bool.and_eq_true, decide_true, decide_false, real_eq_int, real_eq_bl, real_eq_non, real_eq_enc, real_eq_enc2, eqD_int, eqD_bl, eqD_pair, Int.reduceEq, Int.reduceToNat, Int.reduceLE, Int.reduceLT, nab10, nab2, castn0, castn1, castn2, castn3, castn4, castn5, Nat.reduceLT, and_self, and_true, true_and, and_false, false_and, if_pos trivial, not_true_eq_false, not_false_eq_true, Bool.or_true, Bool.or_false, Bool.true_or, Bool.false_or]
theorem lawB (C : TV.Ctx) (hL : C.L = real) (l r : List D) (a : Int) (items : List D) (h1 : evE C (.lc rowE (.one 1) (.rg1 rowI) .no [1]) [.lst .fz l, .hole, .hole, .hole, .hole, .hole, .hole, .hole, .hole, .hole, .hole] = some (.ok (.val (.lst .ow r)) [.lst .fz l, .hole, .hole, .hole, .hole, .hole, .hole, .hole, .hole, .hole, .hole])) (h2 : evIt C (.rg2 (.lit (.int 1)) (.bi .len (.cons (.bo 2) .nil))) [.lst .fz l, .hole, .lst .ow r, .int 0, .hole, .hole, .hole, .hole, .hole, .hole, .hole] = some (.ok ([], items) [.lst .fz l, .hole, .lst .ow r, .int 0, .hole, .hole, .hole, .hole, .hole, .hole, .hole])) (h3 : loopF C (.one 1) db items [.lst .fz l, .hole, .lst .ow r, .int 0, .hole, .hole, .hole, .hole, .hole, .hole, .hole] = some (.nx [.lst .fz l, .hole, .lst .ow r, .int a, .hole, .hole, .hole, .hole, .hole, .hole, .hole])) (s1 : shareL r = r) (o1 : noOwL r = true) :
    evSs C (takeS 5 (dropS 2 c_law)) [.lst .fz l, .hole, .hole, .hole, .hole, .hole, .hole, .hole, .hole, .hole, .hole] = some (.nx [.lst .fz l, .hole, .lst .ow r, .int a, .lst .ow r, .hole, .hole, .hole, .hole, .hole, .hole]) := by
  show evSs C (.cons (.asg 2 (.lc rowE (.one 1) (.rg1 rowI) .no [1])) (.cons (.asg 3 (.lit (.int 0))) (.cons (.frs (.one 1) (.rg2 (.lit (.int 1)) (.bi .len (.cons (.bo 2) .nil))) db) (takeS 2 (dropS 5 c_law))))) _ = _
  rw [evSs_cons, evS_asg, h1]
  show sq (some (SRes.nx [.lst .fz l, .hole, .lst .ow r, .hole, .hole, .hole, .hole, .hole, .hole, .hole, .hole])) _ = _
  rw [sq_nx, evSs_cons, evS_asg]
  show sq (some (SRes.nx [.lst .fz l, .hole, .lst .ow r, .int 0, .hole, .hole, .hole, .hole, .hole, .hole, .hole])) _ = _
  rw [sq_nx, evSs_cons, evS_frs, h2]
  simp only [sbnd]
  rw [h3, sq_nx]
  clear h1 h2 h3
  simp only [c_law, takeS, dropS, evE_mv, evE_fr, evE_bo, evE_lit, evE_glb, evE_shr, evE_bin, evE_neg, evE_not, evE_and, evE_or, evE_cmp, evE_ix, evE_pth, evE_sl, evE_tup, evE_lst, evE_call, evE_bi, evE_isi, evE_pop, evE_lrv, evE_lrg, evEs_nil, evEs_cons, evEo_no, evEo_so, evC_no, evC_so, evIt_list, evIt_rg1, evIt_rg2, evIt_rg3, evIt_rev, evIt_zip, evIt_enum, evIt_str, evIt_brw, evIt_tupi, evS_asg, evS_unp, evS_par, evS_swp, evS_set1, evS_aug, evS_mut0, evS_ex, evS_ifs, evS_scn, evS_ret, evS_rse, evS_try1, evS_try2, evS_brk, evS_cnt, evS_pas, evS_kil, evSs_nil, evSs_cons, sq_nx, sq_rt, sq_bk, sq_ct, sq_ex, evS_whl, evS_frs, evE_lc, bnd, sbnd, obnd, raw, res, resL, rawL, valsL, anyBor, opBin, opCmp, opBi, biAbs, biInt, biStr, biLen, biList, biSum, biMax, biMin, biAll, Itr.bk, putBack, itemsOf, hkGo, boolsOf, opNeg, opNot, ixD, slD, litD, atom, isD, D.share, shareL, D.isHole, D.whole, wholeL, D.noOw, noOwL, D.noSh, noShL, stIx, owAt, asB, setTg, putE, mutD, mtAppend, mtExtend, mtPop, mtClear, mtInsert, kill, List.foldl_cons, List.foldl_nil, List.getElem?_cons_zero, List.getElem?_cons_succ, List.getElem?_nil, List.set_cons_zero, List.set_cons_succ, List.length_cons, List.length_nil, Bool.and_true, Bool.true_and, Bool.and_false, Bool.false_and, Bool.not_true, Bool.not_false, cond_true, cond_false, if_true, if_false, ite_true, ite_false, reduceIte, reduceCtorEq, Bool.false_eq_true, startE, List.replicate, List.append_eq, List.nil_append, List.cons_append, List.append_nil, fin, TV.atI0, TV.atI1, Option.bind_some, Option.map_some, Bool.and_self, Bool.or_self, Nat.reduceSub, Nat.reduceAdd, Nat.reduceEqDiff, Bool.not_eq_true, Bool.and_eq_true, decide_true, decide_false, real_eq_int, real_eq_bl, real_eq_non, real_eq_enc, real_eq_enc2, eqD_int, eqD_bl, eqD_pair, Int.reduceEq, Int.reduceToNat, Int.reduceLE, Int.reduceLT, nab10, nab2, castn0, castn1, castn2, castn3, castn4, castn5, Nat.reduceLT, and_self, and_true, true_and, and_false, false_and, if_pos trivial, not_true_eq_false, not_false_eq_true, Bool.or_true, Bool.or_false, Bool.true_or, Bool.false_or, s1, o1]
theorem it3_ok (C : TV.Ctx) (l r : List D) (a : Int) (s1 : shareL r = r) (o1 : noOwL r = true) (s2 : shareL r.reverse = r.reverse) (o2 : noOwL r.reverse = true) : evIt C (.list (.lst (.cons (.fr 4) (.cons (.shr (.lrv (.bo 2))) .nil)))) [.lst .fz l, .hole, .lst .ow r, .int a, .lst .ow r, .hole, .hole, .hole, .hole, .hole, .hole] = some (.ok ([.lst .ow [.lst .sh r, .lst .sh r.reverse]], [.lst .sh r, .lst .sh r.reverse]) [.lst .fz l, .hole, .lst .ow r, .int a, .lst .sh r, .hole, .hole, .hole, .hole, .hole, .hole]) := by
  simp only [evE_mv, evE_fr, evE_bo, evE_lit, evE_glb, evE_shr, evE_bin, evE_neg, evE_not, evE_and, evE_or, evE_cmp, evE_ix, evE_pth, evE_sl, evE_tup, evE_lst, evE_call, evE_bi, evE_isi, evE_pop, evE_lrv, evE_lrg, evEs_nil, evEs_cons, evEo_no, evEo_so, evC_no, evC_so, evIt_list, evIt_rg1, evIt_rg2, evIt_rg3, evIt_rev, evIt_zip, evIt_enum, evIt_str, evIt_brw, evIt_tupi, evS_asg, evS_unp, evS_par, evS_swp, evS_set1, evS_aug, evS_mut0, evS_ex, evS_ifs, evS_scn, evS_ret, evS_rse, evS_try1, evS_try2, evS_brk, evS_cnt, evS_pas, evS_kil, evSs_nil, evSs_cons, sq_nx, sq_rt, sq_bk, sq_ct, sq_ex, evS_whl, evS_frs, evE_lc, bnd, sbnd, obnd, raw, res, resL, rawL, valsL, anyBor, opBin, opCmp, opBi, biAbs, biInt, biStr, biLen, biList, biSum, biMax, biMin, biAll, Itr.bk, putBack, itemsOf, hkGo, boolsOf, opNeg, opNot, ixD, slD, litD, atom, isD, D.share, shareL, D.isHole, D.whole, wholeL, D.noOw, noOwL, D.noSh, noShL, stIx, owAt, asB, setTg, putE, mutD, mtAppend, mtExtend, mtPop, mtClear, mtInsert, kill, List.foldl_cons, List.foldl_nil, List.getElem?_cons_zero, List.getElem?_cons_succ, List.getElem?_nil, List.set_cons_zero, List.set_cons_succ, List.length_cons, List.length_nil, Bool.and_true, Bool.true_and, Bool.and_false, Bool.false_and, Bool.not_true, Bool.not_false, cond_true, cond_false, if_true, if_false, ite_true, ite_false, reduceIte, reduceCtorEq, Bool.false_eq_true, startE, List.replicate, List.append_eq, List.nil_append, List.cons_append, List.append_nil, fin, TV.atI0, TV.atI1, Option.bind_some, Option.map_some, Bool.and_self, Bool.or_self, Nat.reduceSub, Nat.reduceAdd, Nat.reduceEqDiff, Bool.not_eq_true, Bool.and_eq_true, decide_true, decide_false, real_eq_int, real_eq_bl, real_eq_non, real_eq_enc, real_eq_enc2, eqD_int, eqD_bl, eqD_pair, Int.reduceEq, Int.reduceToNat, Int.reduceLE, Int.reduceLT, nab10, nab2, castn0, castn1, castn2, castn3, castn4, castn5, Nat.reduceLT, and_self, and_true, true_and, and_false, false_and, if_pos trivial, not_true_eq_false, not_false_eq_true, Bool.or_true, Bool.or_false, Bool.true_or, Bool.false_or, s1, o1, s2, o2]
theorem lawC (C : TV.Ctx) (hL : C.L = real) (l r : List D) (a : Int) (h2 : loopF C (.one 5) sb [.lst .sh r, .lst .sh r.reverse] [.lst .fz l, .hole, .lst .ow r, .int a, .lst .sh r, .hole, .hole, .hole, .hole, .hole, .hole] = some (.nx [.lst .fz l, .hole, .lst .ow r, .int a, .lst .sh r, .hole, .hole, .hole, .hole, .hole, .hole])) (s1 : shareL r = r) (o1 : noOwL r = true) (s2 : shareL r.reverse = r.reverse) (o2 : noOwL r.reverse = true) (w1 : wholeL r = true) (q1 : real.eq (.lst .sh r) = true) (q2 : real.eq (.lst .ow r) = true) :
    fin (evSs C (dropS 7 c_law) [.lst .fz l, .hole, .lst .ow r, .int a, .lst .ow r, .hole, .hole, .hole, .hole, .hole, .hole]) = some (.ok (.bl true)) := by
  show fin (evSs C (.cons (.frs (.one 5) (.list (.lst (.cons (.fr 4) (.cons (.shr (.lrv (.bo 2))) .nil)))) sb) (dropS 8 c_law)) _) = _
  have it := it3_ok C l r a s1 o1 s2 o2
  rw [evSs_cons, evS_frs, it]
  simp only [sbnd]
  rw [h2, sq_nx]
  clear h2 it
  have q3 := eqD_same .sh .ow r
  have q4 := eqD_same .sh .sh r
  simp only [c_law, takeS, dropS, evE_mv, evE_fr, evE_bo, evE_lit, evE_glb, evE_shr, evE_bin, evE_neg, evE_not, evE_and, evE_or, evE_cmp, evE_ix, evE_pth, evE_sl, evE_tup, evE_lst, evE_call, evE_bi, evE_isi, evE_pop, evE_lrv, evE_lrg, evEs_nil, evEs_cons, evEo_no, evEo_so, evC_no, evC_so, evIt_list, evIt_rg1, evIt_rg2, evIt_rg3, evIt_rev, evIt_zip, evIt_enum, evIt_str, evIt_brw, evIt_tupi, evS_asg, evS_unp, evS_par, evS_swp, evS_set1, evS_aug, evS_mut0, evS_ex, evS_ifs, evS_scn, evS_ret, evS_rse, evS_try1, evS_try2, evS_brk, evS_cnt, evS_pas, evS_kil, evSs_nil, evSs_cons, sq_nx, sq_rt, sq_bk, sq_ct, sq_ex, evS_whl, evS_frs, evE_lc, bnd, sbnd, obnd, raw, res, resL, rawL, valsL, anyBor, opBin, opCmp, opBi, biAbs, biInt, biStr, biLen, biList, biSum, biMax, biMin, biAll, Itr.bk, putBack, itemsOf, hkGo, boolsOf, opNeg, opNot, ixD, slD, litD, atom, isD, D.share, shareL, D.isHole, D.whole, wholeL, D.noOw, noOwL, D.noSh, noShL, stIx, owAt, asB, setTg, putE, mutD, mtAppend, mtExtend, mtPop, mtClear, mtInsert, kill, List.foldl_cons, List.foldl_nil, List.getElem?_cons_zero, List.getElem?_cons_succ, List.getElem?_nil, List.set_cons_zero, List.set_cons_succ, List.length_cons, List.length_nil, Bool.and_true, Bool.true_and, Bool.and_false, Bool.false_and, Bool.not_true, Bool.not_false, cond_true, cond_false, if_true, if_false, ite_true, ite_false, reduceIte, reduceCtorEq, Bool.false_eq_true, startE, List.replicate, List.append_eq, List.nil_append, List.cons_append, List.append_nil, fin, TV.atI0, TV.atI1, Option.bind_some, Option.map_some, Bool.and_self, Bool.or_self, Nat.reduceSub, Nat.reduceAdd, Nat.reduceEqDiff, Bool.not_eq_true, Bool.and_eq_true, decide_true, decide_false, real_eq_int, real_eq_bl, real_eq_non, real_eq_enc, real_eq_enc2, eqD_int, eqD_bl, eqD_pair, Int.reduceEq, Int.reduceToNat, Int.reduceLE, Int.reduceLT, nab10, nab2, castn0, castn1, castn2, castn3, castn4, castn5, Nat.reduceLT, and_self, and_true, true_and, and_false, false_and, if_pos trivial, not_true_eq_false, not_false_eq_true, Bool.or_true, Bool.or_false, Bool.true_or, Bool.false_or, hL, s1, o1, w1, q1, q2, q3, q4]
theorem law_gen (ns : List Int) (hns : ∀ c ∈ ns, Bd (2 ^ 20) c) (h63 : ns.length ≤ 63) : runL (n + 8) "law" [.lst .fz (ns.map D.int)] = some (.ok (.bl true)) := by
  have cell := fun (k : Nat) (hk : k ≤ 1000) => run_law_cell_2 (exc := excOf exs) (glb := fun x => gl.lookup x) (T := T) (n := n + 6) rfl .fz ns k hk
  have ll : (ns.map D.int).length = ns.length := List.length_map ..
  -- the first loop
  obtain ⟨M, hM, hM60⟩ : ∃ M : Nat, (if (if 60 < ((ns.map D.int).length : Int) then 60 else ((ns.map D.int).length : Int)) > 3 then (if 60 < ((ns.map D.int).length : Int) then 60 else ((ns.map D.int).length : Int)) else 3) = (M : Int) ∧ M ≤ 60 := by
    rw [ll]
    refine ⟨(if (if 60 < (ns.length : Int) then 60 else (ns.length : Int)) > 3 then (if 60 < (ns.length : Int) then 60 else (ns.length : Int)) else 3).toNat, ?_, ?_⟩
    · rw [Int.toNat_of_nonneg]; split <;> split <;> omega
    · split <;> split <;> omega
  have hlen : rgN 0 (M : Int) 3 ≤ 100 := by
    have : ∀ m : Nat, m ≤ 60 → rgN 0 (m : Int) 3 ≤ 100 := by decide +kernel
    exact this M hM60
  have hl1 : loopF (Cn (n + 7)) (.one 1) lb (rgD 0 (rgN 0 (M : Int) 3) 3) [.lst .fz (ns.map D.int), .hole, .hole, .hole, .hole, .hole, .hole, .hole, .hole, .hole, .hole] = some (.nx [.lst .fz (ns.map D.int), .hole, .hole, .hole, .hole, .hole, .hole, .hole, .hole, .hole, .hole]) := forGo_same fun d hd => by
    obtain ⟨i, hi, rfl⟩ := List.mem_map.mp hd
    have hi := List.mem_range.mp hi
    rw [show (0 : Int) + (i : Int) * 3 = ((3 * i : Nat) : Int) by omega]
    have c0 := cell (3 * i) (by omega)
    have c1 := cell (3 * i + 1) (by omega)
    have c2 := cell (3 * i + 2) (by omega)
    have lc := cells_comp (Cn (n + 7)) rfl (run real (excOf exs) (fun x => gl.lookup x) T (n + 7)) rfl (ns.map D.int) ((3 * i : Nat) : Int) (fun j => cellR ns (3 * i + j)) (fun j hj => by
      rw [show ((3 * i : Nat) : Int) + (j : Int) = ((3 * i + j : Nat) : Int) by omega]
      exact cell (3 * i + j) (by omega))
    have b0 := (cellR_bd hns (3 * i) (by omega)).mono (m := 2 ^ 21) (by decide)
    have b1 := (cellR_bd hns (3 * i + 1) (by omega)).mono (m := 2 ^ 21) (by decide)
    have b2 := cellR_bd hns (3 * i + 2) (by omega)
    obtain ⟨p, hp, e1⟩ := cost_ok (n := n + 5) (cellR ns (3 * i + 0)) (cellR ns (3 * i + 2)) b0 (b2.mono (by decide))
    obtain ⟨q, hq, e2⟩ := cost_ok (n := n + 5) (cellR ns (3 * i + 1)) ((cellR ns (3 * i + 2)).fdiv 7) b1 ((fdiv_bd b2 (by decide)).mono (by decide))
    exact turnA (Cn (n + 7)) rfl (run real (excOf exs) (fun x => gl.lookup x) T (n + 7)) rfl (ns.map D.int) _ _ _ _ p q lc e1 e2 (joined_ok (n := n + 1) hp hp _) (joined_ok (n := n + 1) hp hq _)
  have it1 := it1_ok (Cn (n + 7)) rfl (ns.map D.int) M hM hM60
  -- the row
  obtain ⟨N, hN, hN0, hN60⟩ : ∃ N : Nat, (if (if 60 < ((ns.map D.int).length : Int) then 60 else ((ns.map D.int).length : Int)) > 1 then (if 60 < ((ns.map D.int).length : Int) then 60 else ((ns.map D.int).length : Int)) else 1) = (N : Int) ∧ 0 < N ∧ N ≤ 60 := by
    rw [ll]
    refine ⟨(if (if 60 < (ns.length : Int) then 60 else (ns.length : Int)) > 1 then (if 60 < (ns.length : Int) then 60 else (ns.length : Int)) else 1).toNat, ?_, ?_, ?_⟩
    · rw [Int.toNat_of_nonneg]; split <;> split <;> omega
    · split <;> split <;> omega
    · split <;> split <;> omega
  have rc := row_comp (Cn (n + 7)) rfl (run real (excOf exs) (fun x => gl.lookup x) T (n + 7)) rfl (ns.map D.int) N hN (by omega) (cellR ns) (fun k => Rat.divInt (((cellR ns k).fdiv (1 + (k : Int).fmod 3)).fmod 3 - 1) 2) (fun k hk => cell k (by omega)) (fun k hk => low (n := n + 6) _ 2 (by decide))
  generalize hrow : (List.range N).map (fun k : Nat => Rat.divInt (((cellR ns k).fdiv (1 + (k : Int).fmod 3)).fmod 3 - 1) 2) = row at *
  have lrow : row.length = N := by rw [← hrow, List.length_map, List.length_range]
  have lre : (row.map enc).length = row.length := List.length_map ..
  -- the count
  obtain ⟨g1, _⟩ := loop_all (C := Cn (n + 7)) (tg := .one 1) (b := db) (fun k : Nat => D.int (1 + (k : Int) * 1)) (fun a : Int => [.lst .fz (ns.map D.int), .hole, .lst .ow (row.map enc), .int a, .hole, .hole, .hole, .hole, .hole, .hole, .hole]) (fun a k => a + if (!decide (row.getD (k + 1) 0 = row.getD k 0)) = true then 1 else 0) (List.range (row.length - 1)) (fun _ _ => True) 0 trivial (fun i a k hk _ => ⟨by
    have hk := List.mem_range.mp (List.mem_of_getElem? hk)
    have a1 : atI (row.map enc) (1 + (k : Int) * 1) = some (enc (row.getD (k + 1) 0)) := by rw [show (1 : Int) + (k : Int) * 1 = ((k + 1 : Nat) : Int) by omega]; exact atI_encs row (k + 1) (by omega)
    have a2 : atI (row.map enc) (1 + (k : Int) * 1 - 1) = some (enc (row.getD k 0)) := by rw [show (1 : Int) + (k : Int) * 1 - 1 = (k : Int) by omega]; exact atI_encs row k (by omega)
    exact db_turn (Cn (n + 7)) rfl (ns.map D.int) (row.map enc) a _ _ _ a1 a2, trivial⟩)
  rw [count_fold (fun k => !decide (row.getD (k + 1) 0 = row.getD k 0))] at g1
  have hsteps : (0 : Int) + ((List.range (row.length - 1)).countP (fun k => !decide (row.getD (k + 1) 0 = row.getD k 0)) : Int) = (stepsQ row : Int) := by rw [Int.zero_add]; rfl
  rw [hsteps] at g1
  have it2 : evIt (Cn (n + 7)) (.rg2 (.lit (.int 1)) (.bi .len (.cons (.bo 2) .nil))) [.lst .fz (ns.map D.int), .hole, .lst .ow (row.map enc), .int 0, .hole, .hole, .hole, .hole, .hole, .hole, .hole] = some (.ok ([], rgD 1 (row.length - 1) 1) [.lst .fz (ns.map D.int), .hole, .lst .ow (row.map enc), .int 0, .hole, .hole, .hole, .hole, .hole, .hole, .hole]) := by
    have r := rg2_of (C := Cn (n + 7)) (a := .lit (.int 1)) (b := .bi .len (.cons (.bo 2) .nil)) (env := [.lst .fz (ns.map D.int), .hole, .lst .ow (row.map enc), .int 0, .hole, .hole, .hole, .hole, .hole, .hole, .hole]) (e1 := [.lst .fz (ns.map D.int), .hole, .lst .ow (row.map enc), .int 0, .hole, .hole, .hole, .hole, .hole, .hole, .hole]) (e2 := [.lst .fz (ns.map D.int), .hole, .lst .ow (row.map enc), .int 0, .hole, .hole, .hole, .hole, .hole, .hole, .hole]) (t1 := .val (.int 1)) (t2 := .val (.int row.length)) (i := 1) (j := row.length) rfl (by
      clear g1 rc it1 hl1
      generalize row.map enc = r at *
      simp only [evE_mv, evE_fr, evE_bo, evE_lit, evE_glb, evE_shr, evE_bin, evE_neg, evE_not, evE_and, evE_or, evE_cmp, evE_ix, evE_pth, evE_sl, evE_tup, evE_lst, evE_call, evE_bi, evE_isi, evE_pop, evE_lrv, evE_lrg, evEs_nil, evEs_cons, evEo_no, evEo_so, evC_no, evC_so, evIt_list, evIt_rg1, evIt_rg2, evIt_rg3, evIt_rev, evIt_zip, evIt_enum, evIt_str, evIt_brw, evIt_tupi, evS_asg, evS_unp, evS_par, evS_swp, evS_set1, evS_aug, evS_mut0, evS_ex, evS_ifs, evS_scn, evS_ret, evS_rse, evS_try1, evS_try2, evS_brk, evS_cnt, evS_pas, evS_kil, evSs_nil, evSs_cons, sq_nx, sq_rt, sq_bk, sq_ct, sq_ex, evS_whl, evS_frs, evE_lc, bnd, sbnd, obnd, raw, res, resL, rawL, valsL, anyBor, opBin, opCmp, opBi, biAbs, biInt, biStr, biLen, biList, biSum, biMax, biMin, biAll, Itr.bk, putBack, itemsOf, hkGo, boolsOf, opNeg, opNot, ixD, slD, litD, atom, isD, D.share, shareL, D.isHole, D.whole, wholeL, D.noOw, noOwL, D.noSh, noShL, stIx, owAt, asB, setTg, putE, mutD, mtAppend, mtExtend, mtPop, mtClear, mtInsert, kill, List.foldl_cons, List.foldl_nil, List.getElem?_cons_zero, List.getElem?_cons_succ, List.getElem?_nil, List.set_cons_zero, List.set_cons_succ, List.length_cons, List.length_nil, Bool.and_true, Bool.true_and, Bool.and_false, Bool.false_and, Bool.not_true, Bool.not_false, cond_true, cond_false, if_true, if_false, ite_true, ite_false, reduceIte, reduceCtorEq, Bool.false_eq_true, startE, List.replicate, List.append_eq, List.nil_append, List.cons_append, List.append_nil, fin, TV.atI0, TV.atI1, Option.bind_some, Option.map_some, Bool.and_self, Bool.or_self, Nat.reduceSub, Nat.reduceAdd, Nat.reduceEqDiff, Bool.not_eq_true, Bool.and_eq_true, decide_true, decide_false, real_eq_int, real_eq_bl, real_eq_non, real_eq_enc, real_eq_enc2, eqD_int, eqD_bl, eqD_pair, Int.reduceEq, Int.reduceToNat, Int.reduceLE, Int.reduceLT, nab10, nab2, castn0, castn1, castn2, castn3, castn4, castn5, Nat.reduceLT, and_self, and_true, true_and, and_false, false_and, if_pos trivial, not_true_eq_false, not_false_eq_true, Bool.or_true, Bool.or_false, Bool.true_or, Bool.false_or, lre]) rfl rfl (show real.rng 1 = true by decide +kernel) (real_rng (by omega) (by omega))
    rw [show ((row.length : Int) - 1).toNat = row.length - 1 by omega] at r
    exact r
  -- the last loop
  have st1 := run_steps_of (exc := excOf exs) (glb := fun x => gl.lookup x) (T := T) (n := n + 6) rfl row (by omega)
  have st2 := run_steps_of (exc := excOf exs) (glb := fun x => gl.lookup x) (T := T) (n := n + 6) rfl row.reverse (by rw [List.length_reverse]; omega)
  rw [steps_rev] at st2
  have wh := run_law_whole_1 (exc := excOf exs) (glb := fun x => gl.lookup x) (T := T) (n := n + 6) rfl (stepsQ row : Int)
  have hl3 : loopF (Cn (n + 7)) (.one 5) sb [.lst .sh (row.map enc), .lst .sh (row.reverse.map enc)] [.lst .fz (ns.map D.int), .hole, .lst .ow (row.map enc), .int (stepsQ row : Int), .lst .sh (row.map enc), .hole, .hole, .hole, .hole, .hole, .hole] = some (.nx [.lst .fz (ns.map D.int), .hole, .lst .ow (row.map enc), .int (stepsQ row : Int), .lst .sh (row.map enc), .hole, .hole, .hole, .hole, .hole, .hole]) := forGo_same fun d hd => by
    rcases List.mem_cons.mp hd with rfl | hd
    · exact sb_turn (Cn (n + 7)) rfl (run real (excOf exs) (fun x => gl.lookup x) T (n + 7)) rfl (ns.map D.int) (row.map enc) (row.map enc) _ st1 wh (shareL_encs _)
    · rw [List.mem_singleton.mp hd]
      exact sb_turn (Cn (n + 7)) rfl (run real (excOf exs) (fun x => gl.lookup x) T (n + 7)) rfl (ns.map D.int) (row.map enc) (row.reverse.map enc) _ st2 wh (shareL_encs _)
  have s1 := shareL_encs row
  have o1 := noOwL_encs row
  have s2 := shareL_encs row.reverse
  have o2 := noOwL_encs row.reverse
  rw [List.map_reverse] at s2 o2 hl3
  have g1 : loopF (Cn (n + 7)) (.one 1) db (rgD 1 (row.length - 1) 1) [.lst .fz (ns.map D.int), .hole, .lst .ow (row.map enc), .int 0, .hole, .hole, .hole, .hole, .hole, .hole, .hole] = _ := g1
  have eA := lawA (Cn (n + 7)) (ns.map D.int) _ it1 hl1
  have eB := lawB (Cn (n + 7)) rfl (ns.map D.int) (row.map enc) _ _ rc it2 g1 s1 o1
  have eC := lawC (Cn (n + 7)) rfl (ns.map D.int) (row.map enc) _ hl3 s1 o1 s2 o2 (wholeL_encs row) (real_eq_encs .sh row) (real_eq_encs .ow row)
  rw [runL, run_eq (f := "law") (d := f_law) rfl rfl]
  show fin (evSs (Cn (n + 7)) c_law [.lst .fz (ns.map D.int), .hole, .hole, .hole, .hole, .hole, .hole, .hole, .hole, .hole, .hole]) = _
  rw [evSs_split _ 2, eA, sq_nx, evSs_split _ 5, eB, sq_nx]
  exact eC
end
theorem law_ok (ns : List Int) (hl : ns.length ≤ 63) (hb : ∀ z ∈ ns, Builtin.Int.intBits z ≤ 1048576) : runL 8 "law" [.lst .fz (ns.map D.int)] = some (.ok (.bl true)) :=
  law_gen (n := 0) ns (fun c hc => Bd.bits (Nat.le_trans (hb c hc) (by decide))) hl
end K62
theorem PySem.Challenge.cw_leastmiss_k62_joined_and_steps_holds : PySem.Challenge.rw_leastmiss_k62_joined_and_steps.Holds := by
  exact K62.ends 8 ⟨rfl, by decide, by decide⟩ K62.law_ok
