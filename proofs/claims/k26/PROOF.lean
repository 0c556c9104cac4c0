import PyProof.Rows.All
import Wide.All
import OpenK.AllK
import Wide.FinOn
import HandS.ForMost
import HandS.ForExc
import KE.SortData
import PyProof.Rows.SetFrom
import HandS.Set
import HandS.SetFor
import HandS.SetTxt0
import HandS.List
import HandS.Wide
import HandS.Deep
import HandS.More
import HandS.Style
import HandS.SetKeys
import HandS.IsInst
import HandS.TupLen
import PyProof.ReprRoads
import PyProof.CallFns
import HandS.Dict
import HandS.Strs
import HandS.Flow
import HandS.Iter
import HandS.Small
import HandS.WideMore
import HandS.ExcOwn
import HandS.Defaults
import HandS.Ends
import HandS.HeadEnd
import HandS.Head0
import HandS.Head1
import HandS.Head2
import HandS.HeadHook1
import HandS.HeadHook2
import KE.KStateDown
import PySem.Challenge.RW_deskkeepers_k26_masters
set_option  Elab.async  false
set_option  linter.all  false
set_option  maxRecDepth  100000
set_option  maxHeartbeats  4000000
/-! DI0: texts met but once. -/
namespace DI
open PySem
def nodups : List Str → List Str
  | [] => []
  | x :: r => if x ∈ r then nodups r else x :: nodups r
end DI
/-! DI6f: len(set(texts)). -/
namespace DI
open PySem L2
/-- how many texts are among the first i -/
def metN (zs : List Str) (i : Nat) : Nat := (nodups (zs.take i).reverse).length
theorem mem_nodups {x : Str} : ∀ {l : List Str}, x ∈ nodups l ↔ x ∈ l
  | [] => Iff.rfl
  | y :: r => by
    unfold nodups
    by_cases h : y ∈ r
    · rw [if_pos h, mem_nodups, List.mem_cons]
      exact ⟨.inr, fun q => q.elim (fun e => by rw [e]; exact h) id⟩
    · rw [if_neg h, List.mem_cons, List.mem_cons, mem_nodups]
theorem nodups_le : ∀ l : List Str, (nodups l).length ≤ l.length
  | [] => Nat.le_refl _
  | y :: r => by
    unfold nodups
    have := nodups_le r
    split <;> simp <;> omega
theorem metN_le (zs : List Str) (i : Nat) : metN zs i ≤ i := by
  unfold metN
  have := nodups_le (zs.take i).reverse
  rw [List.length_reverse, List.length_take] at this
  omega
theorem take_next {zs : List Str} {i : Nat} (h : i < zs.length) : (zs.take (i + 1)).reverse = zs.getD i Str.empty :: (zs.take i).reverse := by
  rw [List.take_add_one, List.getElem?_eq_getElem h, List.reverse_append]
  simp [List.getD_eq_getElem?_getD, List.getElem?_eq_getElem h]
theorem metN_next {zs : List Str} {i : Nat} (h : i < zs.length) : metN zs (i + 1) = if (zs.take i).any (· == zs.getD i Str.empty) = true then metN zs i else metN zs i + 1 := by
  unfold metN
  rw [take_next h, nodups]
  have e : ((zs.take i).any (· == zs.getD i Str.empty) = true) ↔ zs.getD i Str.empty ∈ (zs.take i).reverse := by
    rw [List.any_eq_true, List.mem_reverse]
    exact ⟨fun ⟨y, h1, h2⟩ => by rw [← eq_of_beq h2]; exact h1, fun q => ⟨_, q, beq_self_eq_true _⟩⟩
  by_cases c : zs.getD i Str.empty ∈ (zs.take i).reverse
  · rw [if_pos c, if_pos (e.mpr c)]
  · rw [if_neg c, if_neg (fun z => c (e.mp z)), List.length_cons]
theorem anyS_next {zs : List Str} {i : Nat} (h : i < zs.length) (k : Str) : (zs.take (i + 1)).any (· == k) = ((zs.take i).any (· == k) || decide (k = zs.getD i Str.empty)) := by
  have e : zs.take (i + 1) = zs.take i ++ [zs.getD i Str.empty] := by
    have := congrArg List.reverse (take_next h)
    simpa using this
  rw [e, List.any_append]
  congr 1
  by_cases q : k = zs.getD i Str.empty
  · subst q
    simp
  · have q' : (zs.getD i Str.empty == k) = false := beq_eq_false_iff_ne.mpr fun z => q z.symm
    simp only [List.any_cons, List.any_nil, Bool.or_false, q', decide_eq_false q]
theorem strIs {prog : Program} {wo : World} (k : Str) (u : Tok) : (strKind prog wo).is k (.str k u) = true := by
  show Value.isStrOf k (.str k u) = true
  simp [Value.isStrOf]
section
variable {prog : Program} {wo : World} {A : Around} {R : Result → Shared → Prop} {it : Addr} {fp wr : List Addr} {G : Array GenState → Array GenState → Prop} {n : Nat} {P : Nat → Value → Prop} {St : Nat → Shared → Prop}
/-- the set at S holds the first i texts -/
abbrev Got (prog : Program) (wo : World) (zs : List Str) (S i : Nat) (h : Heap) : Prop := h.SetOf (strKind prog wo) S (fun k' => (zs.take i).any (· == k')) (metN zs i)
theorem Got.keep {zs : List Str} {S i : Nat} {h h' : Heap} (g : Got prog wo zs S i h) (k : ∀ o, h.get? S = some o → h'.get? S = some o) : Got prog wo zs S i h' := by
  obtain ⟨o, es, ep, t, ho, rest⟩ := g
  exact ⟨o, es, ep, t, k o ho, rest⟩
theorem texts_in (W : WalksS prog wo A.in1 it fp wr G n P St) (S : Addr) (hSf : S ∉ fp) (zs : List Str) (hz : zs.length = n) (hval : ∀ i v, P i v → ∃ t, v = .str (zs.getD i Str.empty) t) (hb : n + 1 < scanBound) :
    ∀ (k i : Nat) (s : Shared), n - i = k → i ≤ n → St i s → Got prog wo zs S i s.heap → (∀ s', PySem.Moved (S :: wr) G s s' → Got prog wo zs S n s'.heap → R (.ok (.ret .none)) s') → codeAny (model prog wo) A (.builtin "set.update.loop" ⟨[.ref S, .ref it], []⟩) R s := by
  have out : S ∉ wr := fun z => hSf (W.sub _ z)
  have more : ∀ b ∈ wr, b ∈ S :: wr := fun b q => .tail _ q
  intro k
  induction k with
  | zero =>
    intro i s hk hi hst hS hR
    have e : i = n := by omega
    subst e
    refine PySem.codeAny_builtin PyProof.Rows.F.entry_set_update_loop ?_
    rw [PySem.Around.under_plainId PyProof.Rows.F.plain_set_update_loop _]
    refine (show wpAny _ A.in1 (pyNext (.ref it) >>= _) _ _ s from wpAny_bind (W.done s _ _ hst fun s' hm => ?_))
    exact (show wpAny _ A.in1 (ret Value.none) _ _ s' from wpAny_pure (hR s' (hm.mono more) (hS.keep fun o q => hm.heap S o out q)))
  | succ k ih =>
    intro i s hk hi hst hS hR
    have lt : i < n := by omega
    refine PySem.codeAny_builtin PyProof.Rows.F.entry_set_update_loop ?_
    rw [PySem.Around.under_plainId PyProof.Rows.F.plain_set_update_loop _]
    refine (show wpAny _ A.in1 (pyNext (.ref it) >>= _) _ _ s from wpAny_bind (W.item i s _ _ lt hst fun v s' hP hst' hm => ?_))
    obtain ⟨t, rfl⟩ := hval i v hP
    have g2 : Got prog wo zs S i s'.heap := hS.keep fun o q => hm.heap S o out q
    refine (show wpAny _ A.in1 (holding [Value.str (zs.getD i Str.empty) t] (setAdd S (.str (zs.getD i Str.empty) t)) >>= _) _ _ s' from wpAny_bind (wpAny_holding ?_))
    unfold setAdd
    refine wpAny_holding (wpAny_bind ((strKind prog wo).pyHash (k := zs.getD i Str.empty) (strIs _ _) ?_))
    have room : metN zs i + 1 < scanBound := by have := metN_le zs i; omega
    refine wpAny_setAddHashed_of (knd := strKind prog wo) (s := { s' with toks := s'.toks + 1 }) (strIs _ _) rfl g2 room fun h' hsb hS2 => ?_
    have g3 : Got prog wo zs S (i + 1) h' := PyProof.Rows.SetOf_congr hS2 (fun k' => (anyS_next (zs := zs) (i := i) (by omega) k').symm) (metN_next (zs := zs) (i := i) (by omega)).symm
    refine wpAny_pure ⟨plainId_quiet PyProof.Rows.F.plain_set_update_loop _, ih (i + 1) _ (by omega) lt (W.frame _ s' _ _ hst' (Nat.le_succ _) fun b q o e => ?_) g3 fun s'' hm2 g4 => ?_⟩
    · rw [hsb.2 b fun z => hSf (by rw [← z]; exact q)]
      exact e
    · refine hR s'' (PySem.Moved.trans W.gtrans ((hm.mono more).then_heap (Nat.le_succ _) fun b o q e => ?_) hm2) g4
      rw [hsb.2 b fun z => q (by rw [z]; exact .head _)]
      exact e
end
/-- a new set's object -/
abbrev sObj0 (led : Bool) : Obj := { cls := .type "set", dict := none, data := .set #[] 0 (.fresh 0 0 led) }
abbrev hp0 (s : Shared) (led : Bool) : Heap := s.heap.push (sObj0 led)
theorem strs_val {zs : List Str} : ∀ {vs : List Value} (i : Nat) (v : Value), Vals (zs.map V.str) vs → vs[i]? = some v → ∃ t, v = .str (zs.getD i Str.empty) t := by
  intro vs i v r h
  obtain ⟨hi, e⟩ := List.getElem?_eq_some_iff.mp h
  have hl := r.length
  rw [List.length_map] at hl
  have hz : i < zs.length := by omega
  obtain ⟨u, hu, t, e2⟩ := r.get (i := i) (x := .str zs[i]) (by simp [hz])
  rw [h] at hu
  cases hu
  refine ⟨t, ?_⟩
  rw [e2, List.getD_eq_getElem?_getD, List.getElem?_eq_getElem hz]
  rfl
section
variable {prog : Program} {wo : World} {A : Around} {E : Value → Shared → Prop} {s : Shared}
set_option maxHeartbeats 8000000 in
theorem set_of_texts {l : Addr} {its : List Value} {zs : List Str} {Q : Value → Shared → Prop} (hh : A.handled = none) (hl : s.heap.IsList l its.toArray) (hv : Vals (zs.map V.str) its) (hb : zs.length + 1 < scanBound)
    (h : ∀ (h' : Heap) (tk : Nat), Got prog wo zs s.heap.objs.size zs.length h' → (∀ b o, b < s.heap.objs.size → s.heap.get? b = some o → h'.get? b = some o) → Q (.ref s.heap.objs.size) { s with heap := h', toks := tk }) :
    wpAny (model prog wo) A (call (.type "set") [.ref l]) Q E s := by
  obtain ⟨c, tl, hmro⟩ := PySem.F.called_set.mro
  have made := PySem.F.called_set.made
  have subs := PySem.F.called_set.sub
  refine PySem.wpAny_call (PySem.codeAny_of_tree ?_)
  refine (show wpAny _ _ (callAny (.type "set") _) _ _ _ from wpAny_pure ⟨PySem.Code.quiet_builtin _ (by decide +kernel), PySem.codeAny_builtin PySem.F.entry_type_call ?_⟩)
  rw [PySem.Around.under_plain (PySem.weight_type_call_type "set" [.ref l] []) rfl]
  have c1 := PySem.F.called_set.notType
  have c2 := PySem.F.called_set.canCreate
  have c3 := PySem.F.typeCall_set_1 (.ref l)
  repeat any_goals (first | assumption | wp_step)
  refine PySem.codeAny_mono (PySem.code_set_new_1 (.ref l) (E := E) (Q₁ := fun ob s1 => ∃ led : Bool, ob = .ref s.heap.objs.size ∧ s1 = { s with heap := hp0 s led }) fun led => ⟨led, rfl, rfl⟩) fun r s1 hr => ?_
  cases r with
  | error e => exact hr
  | ok fl =>
    cases fl with
    | ret ob =>
      obtain ⟨led, rfl, rfl⟩ := hr
      have hS : (hp0 s led).get? s.heap.objs.size = some (sObj0 led) := Heap.get?_push_size _ rfl
      have hT : Shared.TypeIs { s with heap := hp0 s led } (.ref s.heap.objs.size) "set" := ⟨_, hS, rfl⟩
      have look := PySem.F.called_set.init.lookup
      have bind := PySem.F.called_set.init.bind (.ref s.heap.objs.size)
      repeat any_goals (first | assumption | wp_step)
      refine PySem.codeAny_mono (PySem.codeAny_call_builtin (R := wants (fun r s2 => r = .none ∧ ∃ h' tk, s2 = { s with heap := h', toks := tk } ∧ Got prog wo zs s.heap.objs.size zs.length h' ∧
        (∀ b o, b < s.heap.objs.size → s.heap.get? b = some o → h'.get? b = some o)) E) PySem.F.called_set.init.plain PySem.F.entry_set_init (PySem.check_set_init_1 hT ?_)) fun r2 s2 hr2 => ?_
      · obtain ⟨⟨ocls, odict, odata, osl⟩, hol, hcl, nl, hdl⟩ := hl
        simp only at hcl hdl
        subst hcl hdl
        have hol' : (hp0 s led).get? l = some { cls := .type "list", dict := odict, data := .seq its.toArray nl, slots := osl } := Heap.get?_push_of_some _ hol
        have s1 := PySem.F.sub_list_set
        have s2 := PySem.F.sub_list_frozenset
        have ne : (Value.type "list" == Value.type "dict") = false := by decide
        have hl1 : (hp0 s led).IsList l its.toArray := ⟨_, hol', rfl, nl, rfl⟩
        unfold Builtin.«set.__init__» noKeywords Builtin.Frozenset.updateFrom
        generalize hPI : pyIter = PI
        wp_walk
        subst hPI
        refine PySem.wpAny_pyIter_list hl1 (wpAny_bind (wpAny_runValue ?_))
        have below : l < s.heap.objs.size := Heap.lt_size hol
        have h3 : A.in1.in1.in1.handled = none := by simp [hh]
        have big : (hp0 s led).objs.size = s.heap.objs.size + 1 := Heap.size_push ..
        have apart : l ≠ (hp0 s led).objs.size := by rw [big]; exact Nat.ne_of_lt (Nat.lt_succ_of_lt below)
        have apart2 : s.heap.objs.size ∉ [(hp0 s led).objs.size, l] := by
          rw [big]
          simp only [List.mem_cons, List.not_mem_nil, or_false, not_or]
          exact ⟨Nat.ne_of_lt (Nat.lt_succ_self _), Nat.ne_of_gt below⟩
        have hlen : zs.length = its.toArray.size := by
          have := hv.length
          rw [List.length_map] at this
          rw [List.size_toArray, this]
        refine texts_in ((Walks.list h3 _ l apart its.toArray).toS) s.heap.objs.size apart2 zs hlen (fun i v e => strs_val i v hv (by simpa using e)) (by rw [← hlen]; exact hb) (its.toArray.size - 0) 0 _ (by omega) (Nat.zero_le _)
          ⟨⟨_, Heap.get?_push_size _ rfl, rfl, rfl⟩, hl1.push _⟩ ?_ ?_
        · exact PyProof.Rows.SetOf_congr ((PyProof.Rows.setObjOf_fresh (knd := strKind prog wo) led).setOf (Heap.get?_push_of_some _ hS) (by unfold scanBound; omega)) (fun _ => rfl) rfl
        · rintro ⟨ha, ga, da, ta, oa⟩ hm hq
          have eg : ga = s.gens := hm.gens
          have ed : da = s.drawn := hm.drawn
          have eo : oa = s.os := hm.os
          subst eg ed eo
          rw [← hlen] at hq
          refine (show wpAny _ _ _ _ _ _ from wpAny_pure (show wpAny _ _ (ret Value.none) _ _ _ from wpAny_pure ⟨rfl, ha, ta, rfl, hq, fun b o q e => ?_⟩))
          refine hm.heap b o ?_ (Heap.get?_push_of_some _ (Heap.get?_push_of_some _ e))
          simp only [List.mem_cons, List.not_mem_nil, or_false, not_or]
          exact ⟨Nat.ne_of_lt q, by rw [big]; exact Nat.ne_of_lt (Nat.lt_succ_of_lt q)⟩
      · cases r2 with
        | error e => exact hr2
        | ok f2 =>
          cases f2 with
          | ret r =>
            obtain ⟨rfl, ha, tk, rfl, g, kk⟩ := hr2
            repeat any_goals (first | assumption | wp_step)
            exact h _ _ g kk
          | _ => exact hr2.elim
    | _ => exact hr.elim
end
end DI
/-! DI6i: sorted(set(texts)): the set's order. -/
namespace DI
open PySem L2
/-- the set at S holds these texts, once each; its places rise -/
def TxSet (prog : Program) (wo : World) (S : Nat) (l : List Str) (h : Heap) : Prop :=
  ∃ D : Froz.SD, h.get? S = some (Froz.sObj "set" D) ∧ Froz.TxOk prog wo D l ∧ Ris D.2.2.place.toList ∧ (wo.params.followText "set-order" = true ∨ D.2.2.led = true)
theorem TxSet.keep {prog : Program} {wo : World} {S : Nat} {l : List Str} {h h' : Heap} (g : TxSet prog wo S l h) (k : ∀ o, h.get? S = some o → h'.get? S = some o) : TxSet prog wo S l h' := by
  obtain ⟨D, ho, rest⟩ := g
  exact ⟨D, k _ ho, rest⟩
theorem tail_ris {ep : Nat} {es1 : Array (Int × Value)} {t2 : SetTable} {b : Bool} (r : Ris t2.place.toList) : Ris (Froz.tailTx ep es1 t2 b).2.2.place.toList := by
  unfold Froz.tailTx
  by_cases c : (!b && t2.tooFull) = true
  · rw [if_pos c]
    exact relayAll_ris _ _ _
  · rw [if_neg c]
    exact r
theorem tail_led {ep : Nat} {es1 : Array (Int × Value)} {t2 : SetTable} {b : Bool} : (Froz.tailTx ep es1 t2 b).2.2.led = t2.led := by
  unfold Froz.tailTx
  by_cases c : (!b && t2.tooFull) = true
  · rw [if_pos c]
    exact relayAll_led _ _ _
  · rw [if_neg c]
theorem put_ris {hs : Int} {v : Value} {D : Froz.SD} (r : Ris D.2.2.place.toList) : Ris (Froz.addTx hs v D).2.2.place.toList := by
  refine tail_ris ?_
  have := layNew_ris D.2.2 D.1 hs v r
  by_cases c : (layNew D.2.2 D.1 hs v).2.1.plain = true
  · rw [if_pos c]
    exact this
  · rw [if_neg c]
    exact this
theorem put_led {hs : Int} {v : Value} {D : Froz.SD} : (Froz.addTx hs v D).2.2.led = D.2.2.led := by
  refine tail_led.trans ?_
  have := layNew_led D.2.2 D.1 hs v
  by_cases c : (layNew D.2.2 D.1 hs v).2.1.plain = true
  · rw [if_pos c]
    exact this
  · rw [if_neg c]
    exact this
section
variable {prog : Program} {wo : World} {A : Around} {E : Value → Shared → Prop} {s : Shared}
theorem TxSet.add {S : Nat} {l : List Str} {k : Str} {u : Tok} {Q : Bool → Shared → Prop} (g : TxSet prog wo S l s.heap) (hb : l.length + 1 < scanBound)
    (h : ∀ b h', Heap.SameBut S s.heap h' → TxSet prog wo S (if k ∈ l then l else k :: l) h' → Q b { s with heap := h' }) : wpAny (model prog wo) A (setAddHashed S (.str k u) (hashStr wo k)) Q E s := by
  obtain ⟨D, ho, ok, rs, ld⟩ := g
  by_cases hk : k ∈ l
  · have hh := fun b => h b s.heap (Heap.SameBut.refl S s.heap) (by rw [if_pos hk]; exact ⟨D, ho, ok, rs, ld⟩)
    obtain ⟨es, ep, t⟩ := D
    have hf : t.fits es.size = true := ok.fit
    have hel : ElemsOf (strKind prog wo) es.toList := ok.el
    have hsz : es.size = l.length := ok.sz
    have hb0 : es.size < scanBound := by omega
    have hd : (Froz.sObj "set" (es, ep, t)).data = .set es ep t := rfl
    have hkey : (strKind prog wo).is k (.str k u) = true := Froz.is_str k u
    obtain ⟨e, he, q⟩ := (ok.mem k).mp hk
    unfold setAddHashed setAddHashedIn
    refine wpAny_holding ((wpAny_bind (wpAny_setState_of ho hd hf ?_)))
    dsimp only
    rw [(byScan_of rfl hb0 hel)]
    simp only [↓reduceIte]
    unfold setAddByScan
    refine wpAny_bind (wpAny_bind (wpAny_rule (wpAny_bind (wpAny_setScan_of (knd := strKind prog wo) (k := k) hkey ho hd hf hel ?_))))
    cases hr : List.findIdx? (fun e => (strKind prog wo).is k e.2) es.toList with
    | none =>
      have c := List.findIdx?_eq_none_iff.mp hr e he
      rw [q] at c
      cases c
    | some j => exact wpAny_pure (wpAny_pure (hh _))
  · refine Froz.add_x ho ok hk hb (h true _ (Heap.SameBut.update s.heap S (fun _ => Froz.sObj "set" (Froz.addTx (hashStr wo k) (.str k u) D))) ?_)
    rw [if_neg hk]
    exact ⟨_, Froz.get_upd _ ho rfl, Froz.add_ok u ok, put_ris rs, ld.imp id fun z => by rw [put_led]; exact z⟩
end
section
variable {prog : Program} {wo : World} {A : Around} {R : Result → Shared → Prop} {it : Addr} {fp wr : List Addr} {G : Array GenState → Array GenState → Prop} {n : Nat} {P : Nat → Value → Prop} {St : Nat → Shared → Prop}
/-- the first i texts -/
abbrev metL (zs : List Str) (i : Nat) : List Str := nodups (zs.take i).reverse
theorem metL_le (zs : List Str) (i : Nat) : (metL zs i).length ≤ i := metN_le zs i
theorem metL_next {zs : List Str} {i : Nat} (h : i < zs.length) : metL zs (i + 1) = if zs.getD i Str.empty ∈ metL zs i then metL zs i else zs.getD i Str.empty :: metL zs i := by
  unfold metL
  rw [take_next h, nodups]
  by_cases c : zs.getD i Str.empty ∈ (zs.take i).reverse
  · rw [if_pos c, if_pos (mem_nodups.mpr c)]
  · rw [if_neg c, if_neg fun z => c (mem_nodups.mp z)]
theorem texts_in2 (W : WalksS prog wo A.in1 it fp wr G n P St) (S : Addr) (hSf : S ∉ fp) (zs : List Str) (hz : zs.length = n) (hval : ∀ i v, P i v → ∃ t, v = .str (zs.getD i Str.empty) t) (hb : n + 1 < scanBound) :
    ∀ (k i : Nat) (s : Shared), n - i = k → i ≤ n → St i s → TxSet prog wo S (metL zs i) s.heap → (∀ s', PySem.Moved (S :: wr) G s s' → TxSet prog wo S (metL zs n) s'.heap → R (.ok (.ret .none)) s') → codeAny (model prog wo) A (.builtin "set.update.loop" ⟨[.ref S, .ref it], []⟩) R s := by
  have out : S ∉ wr := fun z => hSf (W.sub _ z)
  have more : ∀ b ∈ wr, b ∈ S :: wr := fun b q => .tail _ q
  intro k
  induction k with
  | zero =>
    intro i s hk hi hst hS hR
    have e : i = n := by omega
    subst e
    refine PySem.codeAny_builtin PyProof.Rows.F.entry_set_update_loop ?_
    rw [PySem.Around.under_plainId PyProof.Rows.F.plain_set_update_loop _]
    refine (show wpAny _ A.in1 (pyNext (.ref it) >>= _) _ _ s from wpAny_bind (W.done s _ _ hst fun s' hm => ?_))
    exact (show wpAny _ A.in1 (ret Value.none) _ _ s' from wpAny_pure (hR s' (hm.mono more) (hS.keep fun o q => hm.heap S o out q)))
  | succ k ih =>
    intro i s hk hi hst hS hR
    have lt : i < n := by omega
    refine PySem.codeAny_builtin PyProof.Rows.F.entry_set_update_loop ?_
    rw [PySem.Around.under_plainId PyProof.Rows.F.plain_set_update_loop _]
    refine (show wpAny _ A.in1 (pyNext (.ref it) >>= _) _ _ s from wpAny_bind (W.item i s _ _ lt hst fun v s' hP hst' hm => ?_))
    obtain ⟨t, rfl⟩ := hval i v hP
    have g2 : TxSet prog wo S (metL zs i) s'.heap := hS.keep fun o q => hm.heap S o out q
    refine (show wpAny _ A.in1 (holding [Value.str (zs.getD i Str.empty) t] (setAdd S (.str (zs.getD i Str.empty) t)) >>= _) _ _ s' from wpAny_bind (wpAny_holding ?_))
    unfold setAdd
    refine wpAny_holding (wpAny_bind ((strKind prog wo).pyHash (k := zs.getD i Str.empty) (strIs _ _) ?_))
    have room : (metL zs i).length + 1 < scanBound := by have := metL_le zs i; omega
    refine TxSet.add (s := { s' with toks := s'.toks + 1 }) g2 room fun b h' hsb hS2 => ?_
    rw [← metL_next (by omega)] at hS2
    refine wpAny_pure ⟨plainId_quiet PyProof.Rows.F.plain_set_update_loop _, ih (i + 1) _ (by omega) lt (W.frame _ s' _ _ hst' (Nat.le_succ _) fun b q o e => ?_) hS2 fun s'' hm2 g4 => ?_⟩
    · rw [hsb.2 b fun z => hSf (by rw [← z]; exact q)]
      exact e
    · refine hR s'' (PySem.Moved.trans W.gtrans ((hm.mono more).then_heap (Nat.le_succ _) fun b o q e => ?_) hm2) g4
      rw [hsb.2 b fun z => q (by rw [z]; exact .head _)]
      exact e
end
section
variable {prog : Program} {wo : World} {A : Around} {E : Value → Shared → Prop} {s : Shared}
abbrev led0 (wo : World) : Bool := !wo.params.followText "set-order"
theorem tset_new {h : Heap} {S : Nat} (ho : h.get? S = some (sObj0 (led0 wo))) : TxSet prog wo S [] h := by
  refine ⟨(#[], 0, .fresh 0 0 (led0 wo)), ho, Froz.TxOk.nil rfl, List.Pairwise.nil, ?_⟩
  show _ ∨ (!wo.params.followText "set-order") = true
  cases wo.params.followText "set-order"
  · exact .inr rfl
  · exact .inl rfl
set_option maxHeartbeats 8000000 in
theorem set_of_texts2 {l : Addr} {its : List Value} {zs : List Str} {Q : Value → Shared → Prop} (hh : A.handled = none) (hl : s.heap.IsList l its.toArray) (hv : Vals (zs.map V.str) its) (hb : zs.length + 1 < scanBound)
    (h : ∀ (h' : Heap) (tk : Nat), TxSet prog wo s.heap.objs.size (metL zs zs.length) h' → (∀ b o, b < s.heap.objs.size → s.heap.get? b = some o → h'.get? b = some o) → Q (.ref s.heap.objs.size) { s with heap := h', toks := tk }) :
    wpAny (model prog wo) A (call (.type "set") [.ref l]) Q E s := by
  obtain ⟨c, tl, hmro⟩ := PySem.F.called_set.mro
  have made := PySem.F.called_set.made
  have subs := PySem.F.called_set.sub
  refine PySem.wpAny_call (PySem.codeAny_of_tree ?_)
  refine (show wpAny _ _ (callAny (.type "set") _) _ _ _ from wpAny_pure ⟨PySem.Code.quiet_builtin _ (by decide +kernel), PySem.codeAny_builtin PySem.F.entry_type_call ?_⟩)
  rw [PySem.Around.under_plain (PySem.weight_type_call_type "set" [.ref l] []) rfl]
  have c1 := PySem.F.called_set.notType
  have c2 := PySem.F.called_set.canCreate
  have c3 := PySem.F.typeCall_set_1 (.ref l)
  repeat any_goals (first | assumption | wp_step)
  refine PySem.codeAny_mono (L2.code_set_led1 (.ref l) (E := E) (Q₁ := fun ob s1 => ob = .ref s.heap.objs.size ∧ s1 = { s with heap := hp0 s (led0 wo) }) ⟨rfl, rfl⟩) fun r s1 hr => ?_
  cases r with
  | error e => exact hr
  | ok fl =>
    cases fl with
    | ret ob =>
      obtain ⟨rfl, rfl⟩ := hr
      have hS : (hp0 s (led0 wo)).get? s.heap.objs.size = some (sObj0 (led0 wo)) := Heap.get?_push_size _ rfl
      have hT : Shared.TypeIs { s with heap := hp0 s (led0 wo) } (.ref s.heap.objs.size) "set" := ⟨_, hS, rfl⟩
      have look := PySem.F.called_set.init.lookup
      have bind := PySem.F.called_set.init.bind (.ref s.heap.objs.size)
      repeat any_goals (first | assumption | wp_step)
      refine PySem.codeAny_mono (PySem.codeAny_call_builtin (R := wants (fun r s2 => r = .none ∧ ∃ h' tk, s2 = { s with heap := h', toks := tk } ∧ TxSet prog wo s.heap.objs.size (metL zs zs.length) h' ∧
        (∀ b o, b < s.heap.objs.size → s.heap.get? b = some o → h'.get? b = some o)) E) PySem.F.called_set.init.plain PySem.F.entry_set_init (PySem.check_set_init_1 hT ?_)) fun r2 s2 hr2 => ?_
      · obtain ⟨⟨ocls, odict, odata, osl⟩, hol, hcl, nl, hdl⟩ := hl
        simp only at hcl hdl
        subst hcl hdl
        have hol' : (hp0 s (led0 wo)).get? l = some { cls := .type "list", dict := odict, data := .seq its.toArray nl, slots := osl } := Heap.get?_push_of_some _ hol
        have s1 := PySem.F.sub_list_set
        have s2 := PySem.F.sub_list_frozenset
        have ne : (Value.type "list" == Value.type "dict") = false := by decide
        have hl1 : (hp0 s (led0 wo)).IsList l its.toArray := ⟨_, hol', rfl, nl, rfl⟩
        unfold Builtin.«set.__init__» noKeywords Builtin.Frozenset.updateFrom
        generalize hPI : pyIter = PI
        wp_walk
        subst hPI
        refine PySem.wpAny_pyIter_list hl1 (wpAny_bind (wpAny_runValue ?_))
        have below : l < s.heap.objs.size := Heap.lt_size hol
        have h3 : A.in1.in1.in1.handled = none := by simp [hh]
        have big : (hp0 s (led0 wo)).objs.size = s.heap.objs.size + 1 := Heap.size_push ..
        have apart : l ≠ (hp0 s (led0 wo)).objs.size := by rw [big]; exact Nat.ne_of_lt (Nat.lt_succ_of_lt below)
        have apart2 : s.heap.objs.size ∉ [(hp0 s (led0 wo)).objs.size, l] := by
          rw [big]
          simp only [List.mem_cons, List.not_mem_nil, or_false, not_or]
          exact ⟨Nat.ne_of_lt (Nat.lt_succ_self _), Nat.ne_of_gt below⟩
        have hlen : zs.length = its.toArray.size := by
          have := hv.length
          rw [List.length_map] at this
          rw [List.size_toArray, this]
        refine texts_in2 ((Walks.list h3 _ l apart its.toArray).toS) s.heap.objs.size apart2 zs hlen (fun i v e => strs_val i v hv (by simpa using e)) (by rw [← hlen]; exact hb) (its.toArray.size - 0) 0 _ (by omega) (Nat.zero_le _)
          ⟨⟨_, Heap.get?_push_size _ rfl, rfl, rfl⟩, hl1.push _⟩ ?_ ?_
        · exact tset_new (Heap.get?_push_of_some _ hS)
        · rintro ⟨ha, ga, da, ta, oa⟩ hm hq
          have eg : ga = s.gens := hm.gens
          have ed : da = s.drawn := hm.drawn
          have eo : oa = s.os := hm.os
          subst eg ed eo
          rw [← hlen] at hq
          refine (show wpAny _ _ _ _ _ _ from wpAny_pure (show wpAny _ _ (ret Value.none) _ _ _ from wpAny_pure ⟨rfl, ha, ta, rfl, hq, fun b o q e => ?_⟩))
          refine hm.heap b o ?_ (Heap.get?_push_of_some _ (Heap.get?_push_of_some _ e))
          simp only [List.mem_cons, List.not_mem_nil, or_false, not_or]
          exact ⟨Nat.ne_of_lt q, by rw [big]; exact Nat.ne_of_lt (Nat.lt_succ_of_lt q)⟩
      · cases r2 with
        | error e => exact hr2
        | ok f2 =>
          cases f2 with
          | ret r =>
            obtain ⟨rfl, ha, tk, rfl, g, kk⟩ := hr2
            repeat any_goals (first | assumption | wp_step)
            exact h _ _ g kk
          | _ => exact hr2.elim
    | _ => exact hr.elim
end
end DI
/-! DI6j: sorted of a set of texts. -/
namespace DI
open PySem L2
theorem perm_of_nodup {α : Type} [DecidableEq α] : ∀ {l m : List α}, l.Nodup → (∀ x ∈ l, x ∈ m) → m.length ≤ l.length → l.Perm m
  | [], m, _, _, hl => by
    have : m = [] := List.length_eq_zero_iff.mp (Nat.le_zero.mp hl)
    rw [this]
  | x :: l, m, hn, hs, hl => by
    have hx : x ∈ m := hs x (.head _)
    have h1 := List.nodup_cons.mp hn
    have h2 : (m.erase x).length ≤ l.length := by
      rw [List.length_erase_of_mem hx]
      have : m.length ≤ l.length + 1 := hl
      omega
    refine (List.Perm.cons x (perm_of_nodup h1.2 (fun y hy => ?_) h2)).trans (List.perm_cons_erase hx).symm
    have hne : y ≠ x := fun e => h1.1 (e ▸ hy)
    exact (List.mem_erase_of_ne hne).mpr (hs y (.tail _ hy))
theorem nodups_nodup : ∀ l : List Str, (nodups l).Nodup
  | [] => List.nodup_nil
  | x :: r => by
    unfold nodups
    by_cases h : x ∈ r
    · rw [if_pos h]
      exact nodups_nodup r
    · rw [if_neg h]
      exact List.nodup_cons.mpr ⟨fun z => h (mem_nodups.mp z), nodups_nodup r⟩
def txtOf : Value → Str
  | .str k _ => k
  | _ => Str.empty
theorem strs_are : ∀ {vs : List Value}, (∀ v ∈ vs, ∃ k t, v = Value.str k t) → PyProof.Rows.StrsAre vs (vs.map txtOf)
  | [], _ => .nil
  | v :: vs, h => by
    obtain ⟨k, t, rfl⟩ := h v (.head _)
    exact .cons k t (strs_are fun u hu => h u (.tail _ hu))
section
variable {prog : Program} {wo : World} {A : Around} {E : Value → Shared → Prop} {s : Shared}
theorem sorted_tset {a : Addr} {l : List Str} {Q : Value → Shared → Prop} (R : TxSet prog wo a l s.heap) (hh : A.handled = none) (hl : l.length ≤ 4000) (nd : l.Nodup)
    (hQ : ∀ s' p (out : Array Value) (c : Nat) (ys : List Str), (∀ b o, s.heap.get? b = some o → s'.heap.get? b = some o) → s'.gens = s.gens → s'.os = s.os → s.heap.objs.size ≤ p →
      s'.heap.get? p = some (PyProof.Rows.seqObj "list" out c) → PyProof.Rows.StrsAre out.toList ys → ys.Perm l → PyProof.Rows.sortedS ys = true → Q (.ref p) s') :
    wpAny (model prog wo) A (call (.builtin "sorted") [.ref a]) Q E s := by
  obtain ⟨⟨es, ep, t⟩, ho, ok, rs, ld⟩ := R
  have hsz : es.size = l.length := ok.sz
  have hf : t.fits es.size = true := ok.fit
  have hs1000 := sizeLine_eq
  refine PySem.Calls.call_function_entry PyProof.Rows.kind_sorted PyProof.Rows.plain_sorted PyProof.Rows.entry_sorted (PyProof.Rows.args_sorted1 _) ?_
  unfold Builtin.«sorted»
  refine wpAny_bind (m := checkCount "sorted" 1 1 _) ((wpAny_pure ?_))
  refine wpAny_bind (L2.collect_set (A := A.in1) hh ⟨_, ho, rfl, rfl⟩ hf (by unfold scanBound; rw [hsz]; omega) rs ld fun s1 vs k1 z1 g1 o1 pm => ?_)
  have hvl : vs.length = l.length := by rw [pm.length_eq, List.length_map, Array.length_toList, hsz]
  have hv : ∀ v ∈ vs, ∃ k t, v = Value.str k t := fun v hv => by
    obtain ⟨e, he, q⟩ := List.mem_map.mp (pm.mem_iff.mp hv)
    obtain ⟨⟨k, hk, _⟩, _⟩ := ok.el e he
    obtain ⟨u, hu⟩ := PySem.Value.isStrOf_shape hk
    exact ⟨k, u, by rw [← q]; exact hu⟩
  have hS := strs_are hv
  have pl : (vs.map txtOf).Perm l := (perm_of_nodup nd (fun k hk => by
    obtain ⟨e, he, q⟩ := (ok.mem k).mp hk
    obtain ⟨u, hu⟩ := PySem.Value.isStrOf_shape q
    exact List.mem_map.mpr ⟨e.2, pm.mem_iff.mpr (List.mem_map.mpr ⟨e, he, rfl⟩), by rw [hu]; rfl⟩) (by rw [List.length_map, hvl]; exact Nat.le_refl _)).symm
  refine wpAny_bind (wpAny_newList ?_ (by rw [hvl]; omega))
  have hoL : (s1.heap.push (PyProof.Rows.seqObj "list" vs.toArray 0)).get? s1.heap.objs.size = some (PyProof.Rows.seqObj "list" vs.toArray 0) := Heap.get?_push_size _ rfl
  refine wpAny_bind (wpAny_holding (wpAny_call_entry PyProof.Rows.slot_list_sort ⟨_, hoL, rfl⟩ PyProof.Rows.entry_list_sort
    (PyProof.Rows.list_sort_treeKAny PyProof.Rows.strKind_oneLt hoL hS.keysOf (fun v1 v2 rest e => PyProof.Rows.keyKind_strs (by rw [← e]; exact hS)) (by rw [hvl]; omega) fun st' hp hs => ⟨_, rfl, ?_⟩) (PyProof.Rows.args_list_sort _)))
  obtain ⟨ys, y1, y2, y3⟩ := PyProof.Rows.sorted_out_str hS hp hs
  obtain ⟨c, hc⟩ := PyProof.Rows.sortedHeap_at (vs := vs) (out := (PyProof.Rows.arrOf st').map (·.2)) hoL
  refine wpAny_pure ⟨_, rfl, hQ _ s1.heap.objs.size _ c ys (fun b u e => ?_) g1 o1 z1 hc y1 (y2.trans pl) y3⟩
  have q := k1 b u e
  have lt := Heap.lt_size q
  show (PyProof.Rows.sortedHeap (s1.heap.push (PyProof.Rows.seqObj "list" vs.toArray 0)) s1.heap.objs.size vs _).get? b = some u
  rw [PyProof.Rows.sortedHeap_old (Nat.ne_of_lt lt) (by rw [PyProof.Rows.size_push']; exact Nat.lt_succ_of_lt lt)]
  exact Heap.get?_push_of_some _ q
end
/-- sorted(set(texts)) -/
abbrev rSortTx (K : PySem.W.Frag) : V → Hp → VK → Prop := fun x H Q => ∃ (l : Addr) (zs : List Str), x = .ref l ∧ SqL K H l (zs.map V.str) ∧ zs.length ≤ 4000 ∧
  ∀ (ys : List Str) (p : Addr), ys.Perm (nodups zs.reverse) → PyProof.Rows.sortedS ys = true → H p = none → Q (.ref p) (upd H p (.lst (ys.map V.str)))
theorem pe_sortTx {X : Cx} {a : Expr} {ta : TE} {p p2 q pos : Pos} (hc : X.calm = true) (hg : Gl X "sorted") (hm : X.mg "sorted" = none) (hg2 : Gl X "set") (hm2 : X.mg "set" = none) (ha : PE X a ta)
    (na : starEach [a] X.env = (false, eval a X.env) :: starEach [] X.env) (boot : bootBuiltins "sorted" = some (.builtin "sorted")) : PE X (.Call (.Name "sorted" p) [.Call (.Name "set" p2) [a] [] q] [] pos) (fun σ H Q => ta σ H fun x H1 => rSortTx X.K x H1 Q) := by
  refine ⟨fun pins s σ H Q I h => PyProof.Rows.Call_ (L2.ld_blt I hg hm boot ?_)⟩
  refine PyProof.Rows.callWith_builtin1 (PyProof.Rows.args_cons (PyProof.Rows.Call_ (L2.ld_blt I hg2 hm2 PyProof.Rows.boot_set ?_)) rfl) rfl rfl
  refine PyProof.Rows.callWith_type1 (PyProof.Rows.args_cons (thn (ha.run pins s σ H _ I h) fun v s1 ⟨x, H1, I1, r1, q1⟩ => PyProof.Rows.args_nil ?_) na) na rfl
  obtain ⟨l, zs, rfl, hq, hz, q1⟩ := q1
  cases r1
  obtain ⟨its, r, pl, hl⟩ := I1.list hq
  refine set_of_texts2 (I1.ok.hd hc) pl.isList r (by unfold scanBound; omega) fun h' tk g kk => PyProof.Rows.args_nil ?_
  have I2 : L2.Inv X pins σ H1 { s1 with heap := h', toks := tk } := I1.kept fun b o e => kk b o (Heap.lt_size e) e
  have e : metL zs zs.length = nodups zs.reverse := by
    unfold metL
    rw [List.take_length]
  rw [e] at g
  have hle := nodups_le zs.reverse
  rw [List.length_reverse] at hle
  have hs1000 := sizeLine_eq
  refine sorted_tset g (I1.ok.hd hc) (by omega) (nodups_nodup _) fun s' p out c ys k gg o hp hg hi pm so => ?_
  have hlen : (ys.map V.str).length ≤ sizeLine := by rw [List.length_map, pm.length_eq]; omega
  have hn : H1 p = none := I2.hok.fresh hp
  have ok : ObjOk X.prog X.w (upd H1 p (.lst (ys.map V.str))) s'.heap p (.lst (ys.map V.str)) := ⟨hlen, out.toList, c, vals_of_strs hi, hg⟩
  exact ⟨.ref p, _, I2.call' (ch := []) o (Un.laid k hp hn) (I2.hok.laid k hp ok) (by rw [gg]; exact I2.bare) (fun _ z => nomatch z), rfl, q1 ys p pm so hn⟩
end DI
/-! DI1: plain data, shapes, the core language, its interpreter. -/
namespace DI
open PySem
abbrev Key := Sum Int Str
/-- plain data -/
inductive D where
  | non | bl (b : Bool) | int (i : Int) | str (s : Str)
  | tup (xs : List D) | lst (xs : List D)
  | dic (kvs : List (Key × D)) | dit (kvs : List (List Key × D))
  | obj (c : Nat) (fs : List (Nat × D))
  /-- the script as it is handed in -/
  | scr (ns : List Int)
instance : Inhabited D := ⟨.non⟩
/-- who holds it: frz: shared, never changed; bor: lent; the rest: held here alone -/
inductive Sh where
  | frz | bor | lst (s : Sh) | dic (s : Sh) | tup (ss : List Sh) | obj (ss : List (Nat × Sh))
instance : Inhabited Sh := ⟨.frz⟩
abbrev SD := Sh × D
def D.scal : D → Bool
  | .non => true | .bl _ => true | .int _ => true | .str _ => true
  | _ => false
def Sh.lent : Sh → Bool
  | .frz => true | .bor => true | _ => false
def Sh.isB : Sh → Bool
  | .bor => true | _ => false
mutual
def toPy : D → Option PyData
  | .non => some .none | .bl b => some (.bool b) | .int i => some (.int i) | .str s => some (.str s)
  | .tup xs => (toPys xs).map .tuple
  | .lst xs => (toPys xs).map .list
  | _ => none
def toPys : List D → Option (List PyData)
  | [] => some []
  | x :: xs => (toPy x).bind fun y => (toPys xs).map fun ys => y :: ys
end
/- nothing lent within -/
mutual
def noB : Sh → Bool
  | .frz => true
  | .bor => false
  | .lst s => noB s
  | .dic s => noB s
  | .tup ss => noBs ss
  | .obj ss => noBf ss
def noBs : List Sh → Bool
  | [] => true
  | s :: ss => noB s && noBs ss
def noBf : List (Nat × Sh) → Bool
  | [] => true
  | (_, s) :: ss => noB s && noBf ss
end
/- a shape may be given up for a lesser one -/
mutual
def wk : Sh → Sh → Bool
  | s, .frz => noB s
  | .lst s, .lst t => wk s t
  | .dic s, .dic t => wk s t
  | .tup ss, .tup ts => wks ss ts
  | _, _ => false
def wks : List Sh → List Sh → Bool
  | [], [] => true
  | s :: ss, t :: ts => wk s t && wks ss ts
  | _, _ => false
end
mutual
def eqSh : Sh → Sh → Bool
  | .frz, .frz => true
  | .bor, .bor => true
  | .lst s, .lst t => eqSh s t
  | .dic s, .dic t => eqSh s t
  | .tup ss, .tup ts => eqShs ss ts
  | .obj ss, .obj ts => eqShf ss ts
  | _, _ => false
def eqShs : List Sh → List Sh → Bool
  | [], [] => true
  | s :: ss, t :: ts => eqSh s t && eqShs ss ts
  | _, _ => false
def eqShf : List (Nat × Sh) → List (Nat × Sh) → Bool
  | [], [] => true
  | (f, s) :: ss, (g, t) :: ts => decide (f = g) && eqSh s t && eqShf ss ts
  | _, _ => false
end
/-! ### outcomes -/
abbrev Env := List (Option SD)
inductive Out (α : Type) where
  | ok (a : α) (env : Env)
  | ex (c : Nat) (fs : List D) (env : Env)
def M (α : Type) := Env → Option (Out α)
def M.pure {α : Type} (a : α) : M α := fun env => some (.ok a env)
def M.bind {α β : Type} (m : M α) (k : α → M β) : M β := fun env => match m env with
  | some (.ok a e) => k a e
  | some (.ex c fs e) => some (.ex c fs e)
  | none => none
instance : Monad M where
  pure := M.pure
  bind := M.bind
def M.stuck {α : Type} : M α := fun _ => none
def M.opt {α : Type} (o : Option α) : M α := fun env => o.map fun a => .ok a env
def getV (i : Nat) : M SD := fun env => match env[i]? with
  | some (some x) => some (.ok x env)
  | _ => none
def setV (i : Nat) (x : Option SD) : M Unit := fun env => some (.ok () (env.set i x))
/-! ### the core -/
inductive Op where
  | add | sub | mul | fdiv | mod | pow | shl | shr | band | bor
  | eq | ne | lt | le | gt | ge | isN | notN | isIn | notIn
  | neg | ix | sl (lo hi : Bool) | rev
  | len | abs | min2 | max2 | int | str | repr | list | tuple | sorted | sum | all | any | dict | setlen | sortset
  | min1 | max1 | minD | maxD
  | join | split | index | count | isi (t : Nat) | isc (c : Nat) | upper | get2
inductive Mu where
  | append | insert | extend | pop | popAt | remove | reverse | clear | dpop
/-- how a def takes a parameter -/
inductive Md where
  | bor | frz | own (s : Sh) | io
inductive PIx where
  | cst (d : D) | var (i : Nat)
/-- a place -/
inductive Pl where
  | var (i : Nat) | attr (p : Pl) (f : Nat) | ix (p : Pl) (k : PIx)
mutual
inductive Tg where
  | nm (i : Nat) | tup (ts : Tgs)
inductive Tgs where
  | nil | cons (t : Tg) (ts : Tgs)
end
mutual
inductive E where
  | pl (p : Pl) | mv (i : Nat) | fz (i : Nat)
  | cst (d : D) | glo (x : Str) (d : D)
  | app (o : Op) (as : Es)
  | chn (o p : Op) (a b c : E)
  | bm (o : Op) (a : E) (as : Es)
  | sl2 (a b c : E)
  | tup (as : Es) | lst (s : Sh) (as : Es)
  | newd (t : Bool) (s : Sh)
  | and (a b : E) | or (a b : E) | not (a : E) | ite (c a b : E)
  | attr (e : E) (f : Nat)
  | mut (m : Mu) (p : Pl) (as : Es)
  | call (f : Nat) (as : Es)
  | mcall (c : Nat) (f : Nat) (o : E) (as : Es)
  | new (c : Nat) (as : Es)
  | lc (own : List Nat) (tg : Tg) (it : It) (ifs : Es) (elt : E) (s : Sh)
  | dc (own : List Nat) (tg : Tg) (it : It) (ifs : Es) (k v : E) (t : Bool) (s : Sh)
  | sc (own : List Nat) (tg : Tg) (it : It) (ifs : Es) (elt : E)
  /-- never reached -/
  | wall
  /-- a new thing, shared from now on -/
  | fzt (a : E)
  /-- the one or the other, by truth -/
  | orv (a b : E)
inductive Es where
  | nil | cons (e : E) (es : Es)
inductive It where
  | e (x : E) | rng (as : Es) | enum (x : E) | zip (x y : E) | dict (x : E)
end
mutual
inductive S where
  | asg (tg : Tg) (e : E)
  | par (ts : Tgs) (es : Es)
  | seti (p : Pl) (k : E) (e : E) | seta (p : Pl) (f : Nat) (e : E)
  | augv (i : Nat) (o : Op) (e : E) | augi (p : Pl) (k : E) (o : Op) (e : E)
  | ife (c : E) (a b : Ss) | for (tg : Tg) (it : It) (body : Ss) | whl (c : E) (body : Ss)
  | ret (e : E) | ret0 | exp (e : E) | pass | brk | cnt
  | rais (c : Nat) (as : Es)
  | tryx (body : Ss) (c : Nat) (nm : Option Nat) (suite : Ss)
  | wall
inductive Ss where
  | nil | cons (s : S) (ss : Ss)
end
/-! ### sharing -/
def share : SD → Option SD
  | (.frz, d) => some (.frz, d)
  | (.bor, d) => some (if d.scal then .frz else .bor, d)
  | (_, d) => if d.scal then some (.frz, d) else none
def E.place : E → Bool
  | .pl _ => true
  | _ => false
/-- the value of e, to be kept -/
def take (e : E) (r : SD) : Option SD := match if e.place then share r else some r with
  | some (.bor, _) => none
  | x => x
/-- .. with a shape -/
def takeAs (t : Sh) (e : E) (r : SD) : Option SD := match take e r with
  | some (s, d) => if wk s t then some (t, d) else none
  | none => none
/-- .. or lent -/
def keepK (e : E) (r : SD) : Option SD := if e.place then share r else some r
def Sh.isF : Sh → Bool
  | .frz => true | _ => false
/-- the items are shared -/
def Sh.kidsF : Sh → Bool
  | .frz => true
  | .lst t => t.isF
  | _ => false
/-- the items that may be shared -/
def kids : SD → Option (List D)
  | (s, .lst ds) => if s.kidsF || ds.all D.scal then some ds else none
  | (s, .tup ds) => if s.isF || ds.all D.scal then some ds else none
  | _ => none
def D.isNon : D → Bool
  | .non => true
  | _ => false
def D.isLst : D → Bool
  | .lst _ => true
  | _ => false
def D.isInt : D → Bool
  | .int _ => true
  | _ => false
/-! ### places -/
def PIx.get (env : Env) : PIx → Option D
  | .cst d => some d
  | .var i => match env[i]? with
    | some (some (_, d)) => if d.scal then some d else none
    | _ => none
def keyOf : D → Option Key
  | .int i => some (.inl i)
  | .str s => some (.inr s)
  | _ => none
def keysOf : List D → Option (List Key)
  | [] => some []
  | d :: ds => (keyOf d).bind fun k => (keysOf ds).map fun ks => k :: ks
def tkeyOf : D → Option (List Key)
  | .tup ds => keysOf ds
  | _ => none
def assoc {κ : Type} [DecidableEq κ] (k : κ) : List (κ × D) → Option D
  | [] => none
  | (j, d) :: r => if j = k then some d else assoc k r
def putA {κ : Type} [DecidableEq κ] (k : κ) (v : D) : List (κ × D) → List (κ × D)
  | [] => [(k, v)]
  | (j, d) :: r => if j = k then (j, v) :: r else (j, d) :: putA k v r
def dropA {κ : Type} [DecidableEq κ] (k : κ) : List (κ × D) → List (κ × D)
  | [] => []
  | (j, d) :: r => if j = k then r else (j, d) :: dropA k r
def fld {α : Type} (f : Nat) : List (Nat × α) → Option α
  | [] => none
  | (g, d) :: r => if g = f then some d else fld f r
def fput {α : Type} (f : Nat) (v : α) : List (Nat × α) → List (Nat × α)
  | [] => [(f, v)]
  | (g, d) :: r => if g = f then (g, v) :: r else (g, d) :: fput f v r
abbrev ixN : Nat → Int → Option Nat := L2.ixN
abbrev atD (xs : List D) (i : Int) : Option D := L2.atI xs i
/-- an item's place in a container: its shape and data -/
def itemOf : SD → D → Option SD
  | (s, .lst ds), .int i => match s with
    | .frz => (atD ds i).map fun d => (.frz, d)
    | .bor => (atD ds i).map fun d => (.bor, d)
    | .lst t => (atD ds i).map fun d => (t, d)
    | _ => none
  | (s, .tup ds), .int i => match s with
    | .frz => (atD ds i).map fun d => (.frz, d)
    | .bor => (atD ds i).map fun d => (.bor, d)
    | .tup ss => (ixN ds.length i).bind fun j => match ss[j]?, ds[j]? with
      | some t, some d => some (t, d)
      | _, _ => none
    | _ => none
  | (s, .dic kvs), k => match s with
    | .frz => ((keyOf k).bind fun k => assoc k kvs).map fun d => (.frz, d)
    | .bor => ((keyOf k).bind fun k => assoc k kvs).map fun d => (.bor, d)
    | .dic t => ((keyOf k).bind fun k => assoc k kvs).map fun d => (t, d)
    | _ => none
  | (s, .dit kvs), k => match s with
    | .frz => ((tkeyOf k).bind fun k => assoc k kvs).map fun d => (.frz, d)
    | .bor => ((tkeyOf k).bind fun k => assoc k kvs).map fun d => (.bor, d)
    | .dic t => ((tkeyOf k).bind fun k => assoc k kvs).map fun d => (t, d)
    | _ => none
  | (_, .str z), .int i => if z.length ≤ sizeLine then (L2.atI z.cps.toList i).map fun c => (.frz, .str ⟨#[c]⟩) else none
  | _, _ => none
def attrOf (gd : Nat → Nat → Bool) : SD → Nat → Option SD
  | (s, .obj c fs), f => if gd c f then (match s with
    | .frz => (fld f fs).map fun d => (.frz, d)
    | .bor => (fld f fs).map fun d => (.bor, d)
    | .obj ss => match fld f ss, fld f fs with
      | some s, some d => some (s, d)
      | _, _ => none
    | _ => none) else none
  | _, _ => none
def Pl.get (gd : Nat → Nat → Bool) (env : Env) : Pl → Option SD
  | .var i => match env[i]? with
    | some (some x) => some x
    | _ => none
  | .attr p f => (p.get gd env).bind fun x => attrOf gd x f
  | .ix p k => (p.get gd env).bind fun x => (k.get env).bind fun d => itemOf x d
/-- an item replaced (its shape stays) -/
def itemPut : SD → D → SD → Option SD
  | (.lst t, .lst ds), .int i, (s, d) => if eqSh s t then (ixN ds.length i).map fun j => (.lst t, .lst (ds.set j d)) else none
  | (.dic t, .dic kvs), k, (s, d) => if eqSh s t && decide (kvs.length < sizeLine) then (keyOf k).map fun k => (.dic t, .dic (putA k d kvs)) else none
  | (.dic t, .dit kvs), k, (s, d) => if eqSh s t && decide (kvs.length < sizeLine) then (tkeyOf k).map fun k => (.dic t, .dit (putA k d kvs)) else none
  | (.tup ss, .tup ds), .int i, (s, d) => (ixN ds.length i).bind fun j => (ss[j]?).bind fun t => if eqSh s t then some (.tup ss, .tup (ds.set j d)) else none
  | _, _, _ => none
def attrPut (gd : Nat → Nat → Bool) : SD → Nat → SD → Option SD
  | (.obj ss, .obj c fs), f, (s, d) => if gd c f && noB s && decide (fs.length < 1000) then some (.obj (fput f s ss), .obj c (fput f d fs)) else none
  | _, _, _ => none
/-- the root's thing with x at the place -/
def Pl.up (gd : Nat → Nat → Bool) (env : Env) (x : SD) : Pl → Option SD
  | .var _ => some x
  | .attr p f => (p.get gd env).bind fun y => (attrPut gd y f x).bind fun z => p.up gd env z
  | .ix p k => (p.get gd env).bind fun y => (k.get env).bind fun d => (itemPut y d x).bind fun z => p.up gd env z
def Pl.root : Pl → Nat
  | .var i => i
  | .attr p _ => p.root
  | .ix p _ => p.root
def Pl.put (gd : Nat → Nat → Bool) (env : Env) (x : SD) (p : Pl) : Option Env := (p.up gd env x).map fun z => env.set p.root (some z)
/-! ### operations -/
def lit (x : List D) : Option SD := some (.lst .frz, .lst x)
def sc (d : D) : Option SD := some (.frz, d)
def strsOf : List D → Option (List Str)
  | [] => some []
  | .str s :: r => (strsOf r).map fun t => s :: t
  | _ => none
def intsOf : List D → Option (List Int)
  | [] => some []
  | .int s :: r => (intsOf r).map fun t => s :: t
  | _ => none
def blsOf : List D → Option (List Bool)
  | [] => some []
  | .bl s :: r => (blsOf r).map fun t => s :: t
  | _ => none
abbrev sIx : Nat → Nat → Option Int → Nat := HT.sIx
def cut {α : Type} (xs : List α) (lo hi : Option Int) : List α := (xs.drop (sIx xs.length 0 lo)).take (sIx xs.length xs.length hi - sIx xs.length 0 lo)
def slice (x : SD) (lo hi : Option Int) : Option SD := match x.2 with
  | .str z => if z.length ≤ sizeLine then sc (.str (L2.cutS z lo hi)) else none
  | .lst _ => (kids x).bind fun ds => lit (cut ds lo hi)
  | .tup ds => if decide (sIx ds.length 0 lo = 0) && decide (sIx ds.length ds.length hi = ds.length) then none else (kids x).bind fun ds => some (.frz, .tup (cut ds lo hi))
  | _ => none
def strRep (k : Int) (z : Str) : Str := if k < 1 then Str.empty else if (k == 1 || z.length == 0) = true then z else ⟨(List.replicate k.toNat z.cps).foldl (· ++ ·) #[]⟩
def small (i : Int) : Bool := decide (-(2 ^ 64) < i) && decide (i < 2 ^ 64)
def eqvD (a b : D) : Option Bool := match toPy a, toPy b with
  | some x, some y => if SeqAt.shaped x && SeqAt.shaped y then some (PyData.eqv x y) else none
  | _, _ => none
def strLt (a b : Str) : Bool := decide (a.cps.toList < b.cps.toList)
/-- sorted: ints, texts -/
def insI (x : Int) : List Int → List Int
  | [] => [x]
  | y :: r => if x < y then x :: y :: r else y :: insI x r
def sortI : List Int → List Int
  | [] => []
  | x :: r => insI x (sortI r)
def insS (x : Str) : List Str → List Str
  | [] => [x]
  | y :: r => if strLt y x then y :: insS x r else x :: y :: r
def sortS : List Str → List Str
  | [] => []
  | x :: r => insS x (sortS r)
def pyD (d : D) : PyData := (toPy d).getD .none
def leD (a b : D) : Bool := !PySem.W.dataLt (pyD b) (pyD a)
def tup1 : PyData → Bool
  | .tuple (_ :: _) => true
  | _ => false
def alone : PyData → Bool
  | .tuple _ => false
  | .none => false
  | _ => true
def sortOk (ps : List PyData) : Bool := ps.all (fun p => ps.all fun q => PySem.W.alike p q) && ((ps.all tup1 || ps.all alone) && ps.all fun p => decide (p.depth ≤ 64))
def sortA (ds : List D) : Option (List D) := match strsOf ds with
  | some zs => if zs.length < 64 then some ((sortS zs).map .str) else none
  | none => match intsOf ds with
    | some zs => if zs.length < 64 then some ((sortI zs).map .int) else none
    | none => none
def sortD (ds : List D) : Option (List D) := match sortA ds with
  | some es => some es
  | none => match toPys ds with
    | some ps => if sortOk ps && decide (ds.length ≤ sizeLine) then some (ds.mergeSort leD) else none
    | none => none
def isIn (x y : D) : Option Bool := match y with
  | .str b => match x with
    | .str a => some (!(Builtin.Str.occurrences b a 0 b.length 1).isEmpty)
    | _ => none
  | .lst ds => match toPy x, toPys ds with
    | some p, some ps => if SeqAt.shaped p && SeqAt.shaped (.list ps) then some (ps.any fun q => PyData.eqv q p) else none
    | _, _ => none
  | .dic kvs => (keyOf x).map fun k => (assoc k kvs).isSome
  | .dit kvs => (tkeyOf x).map fun k => (assoc k kvs).isSome
  | _ => none
def lenD : D → Option Nat
  | .str z => if z.length ≤ sizeLine then some z.length else none
  | .lst ds => some ds.length
  | .tup ds => some ds.length
  | .dic kvs => some kvs.length
  | _ => none
def pairsOf : List D → Option (List (Key × D))
  | [] => some []
  | .tup [k, v] :: r => (keyOf k).bind fun k => (pairsOf r).map fun t => (k, v) :: t
  | _ => none
def mergeA (kvs more : List (Key × D)) : List (Key × D) := more.foldl (fun acc kv => putA kv.1 kv.2 acc) kvs
def minI (x : Int) : List Int → Int
  | [] => x
  | y :: r => minI (if y < x then y else x) r
def maxI (x : Int) : List Int → Int
  | [] => x
  | y :: r => maxI (if x < y then y else x) r
def findD (p : PyData) : List PyData → Option Nat
  | [] => none
  | q :: r => if PyData.eqv q p then some 0 else (findD p r).map (· + 1)
def isTy (t : Nat) : D → Option Bool
  | .non => some false
  | .int _ => some (t == 0)
  | .bl _ => some (t == 0 || t == 1)
  | .str _ => some (t == 2)
  | .lst _ => some (t == 3)
  | .tup _ => some (t == 4)
  | .dic _ => some (t == 5)
  | .dit _ => some (t == 5)
  | _ => none
def sem1 : Op → SD → Option SD
  | .neg, (_, .int a) => sc (.int (-a))
  | .isN, (_, a) => sc (.bl a.isNon)
  | .notN, (_, a) => sc (.bl (!a.isNon))
  | .sl false false, x => slice x none none
  | .rev, (s, .lst ds) => (kids (s, .lst ds)).bind fun ds => lit ds.reverse
  | .len, (_, a) => (lenD a).bind fun n => sc (.int n)
  | .abs, (_, .int a) => sc (.int (if a < 0 then -a else a))
  | .int, (_, .int a) => sc (.int a)
  | .int, (_, .bl a) => sc (.int (if a then 1 else 0))
  | .str, (_, .int a) => if a.natAbs.log2 < 1920 then sc (.str (toString a)) else none
  | .repr, (_, a) => match toPy a with
    | some p => if p.showable && decide (p.shown.length ≤ sizeLine) && decide (p.depth ≤ 64) then sc (.str p.shown) else none
    | none => none
  | .list, (s, .lst ds) => (kids (s, .lst ds)).bind lit
  | .list, (s, .tup ds) => (kids (s, .tup ds)).bind lit
  | .tuple, (s, .lst ds) => (kids (s, .lst ds)).bind fun ds => some (.frz, .tup ds)
  | .sorted, (s, .lst ds) => (kids (s, .lst ds)).bind fun ds => (sortD ds).bind lit
  | .sorted, (_, .dic kvs) => (sortA (kvs.map fun kv => match kv.1 with | .inl i => D.int i | .inr z => D.str z)).bind lit
  | .sum, (_, .lst ds) => (intsOf ds).bind fun zs => sc (.int zs.sum)
  | .all, (_, .lst ds) => (blsOf ds).bind fun zs => sc (.bl (zs.all id))
  | .any, (_, .lst ds) => (blsOf ds).bind fun zs => sc (.bl (zs.any id))
  | .dict, (s, .lst ds) => (kids (s, .lst ds)).bind fun ds => (pairsOf ds).bind fun kvs => some (.dic .frz, .dic (mergeA [] kvs))
  | .setlen, (_, .lst ds) => (strsOf ds).bind fun zs => if zs.length ≤ 4000 then sc (.int (nodups zs.reverse).length) else none
  | .sortset, (_, .lst ds) => (strsOf ds).bind fun zs => if zs.length ≤ 4000 then lit ((sortS (nodups zs.reverse)).map .str) else none
  | .min1, (_, .lst ds) => match intsOf ds with
    | some (x :: r) => sc (.int (minI x r))
    | _ => none
  | .max1, (_, .lst ds) => match intsOf ds with
    | some (x :: r) => sc (.int (maxI x r))
    | _ => none
  | .isi t, (_, a) => (isTy t a).bind fun b => sc (.bl b)
  | _, _ => none
def sem2 : Op → SD → SD → Option SD
  | .add, (_, .int a), (_, .int b) => sc (.int (a + b))
  | .add, (_, .str a), (_, .str b) => if a.length + b.length ≤ sizeLine then sc (.str (a ++ b)) else none
  | .add, (s, .lst as), (t, .lst bs) => (kids (s, .lst as)).bind fun as => (kids (t, .lst bs)).bind fun bs => if as.length + bs.length ≤ sizeLine then lit (as ++ bs) else none
  | .add, (s, .tup as), (t, .tup bs) => (kids (s, .tup as)).bind fun as => (kids (t, .tup bs)).bind fun bs =>
      if as.length + bs.length ≤ sizeLine && !as.isEmpty && !bs.isEmpty then some (.frz, .tup (as ++ bs)) else none
  | .sub, (_, .int a), (_, .int b) => sc (.int (a - b))
  | .mul, (_, .int a), (_, .int b) => if small a || small b then sc (.int (a * b)) else none
  | .mul, (s, .lst as), (_, .int k) => (kids (s, .lst as)).bind fun as => if decide (-(2 ^ 63) ≤ k) && decide (k < 2 ^ 63) && decide (as.length * k.toNat ≤ sizeLine) then lit (List.replicate k.toNat as).flatten else none
  | .mul, (_, .str z), (_, .int k) => if decide (-(2 ^ 63) ≤ k) && decide (k < 2 ^ 63) && decide (z.length * k.toNat ≤ sizeLine) then sc (.str (strRep k z)) else none
  | .fdiv, (_, .int a), (_, .int b) => if decide (0 < b) && decide (b.natAbs < 2 ^ 9000) then sc (.int (a / b)) else none
  | .mod, (_, .int a), (_, .int b) => if 0 < b then sc (.int (a % b)) else none
  | .pow, (_, .int a), (_, .int b) => if decide (0 ≤ b) && decide (b ≤ 1000000) && decide (a.natAbs < 2 ^ 64) then sc (.int (a ^ b.toNat)) else none
  | .shl, (_, .int a), (_, .int b) => if decide (0 ≤ b) && decide (b ≤ 1000000) && decide (a.natAbs < 2 ^ 64) then sc (.int (a * 2 ^ b.toNat)) else none
  | .shr, (_, .int a), (_, .int b) => if 0 ≤ b then sc (.int (a / 2 ^ b.toNat)) else none
  | .band, (_, .int a), (_, .int b) => sc (.int (Builtin.bitAnd a b))
  | .bor, (_, .int a), (_, .int b) => sc (.int (Builtin.bitOr a b))
  | .eq, (_, a), (_, b) => (eqvD a b).bind fun c => sc (.bl c)
  | .ne, (_, a), (_, b) => (eqvD a b).bind fun c => sc (.bl (!c))
  | .lt, (_, .int a), (_, .int b) => sc (.bl (decide (a < b)))
  | .le, (_, .int a), (_, .int b) => sc (.bl (decide (a ≤ b)))
  | .gt, (_, .int a), (_, .int b) => sc (.bl (decide (b < a)))
  | .ge, (_, .int a), (_, .int b) => sc (.bl (decide (b ≤ a)))
  | .lt, (_, .str a), (_, .str b) => sc (.bl (strLt a b))
  | .isIn, (_, a), (_, b) => (isIn a b).bind fun c => sc (.bl c)
  | .notIn, (_, a), (_, b) => (isIn a b).bind fun c => sc (.bl (!c))
  | .ix, x, (_, k) => (itemOf x k).bind share
  | .sl true false, x, (_, .int i) => slice x (some i) none
  | .sl false true, (_, .scr ns), (_, .int i) => lit ((cut ns none (some i)).map .int)
  | .sl false true, x, (_, .int i) => slice x none (some i)
  | .min2, (_, .int a), (_, .int b) => sc (.int (if b < a then b else a))
  | .max2, (_, .int a), (_, .int b) => sc (.int (if b > a then b else a))
  | .join, (_, .str z), (_, .lst ds) => (strsOf ds).bind fun ys => if (ys.map (·.length)).sum + ys.length * z.length ≤ 16777216 then sc (.str (PySem.Txt.join z ys)) else none
  | .split, (_, .str a), (_, .str b) => if decide (b.length ≠ 0) && decide (a.length + 2 ≤ sizeLine) then lit ((PySem.Txt.split a b).map .str) else none
  | .index, (_, .lst ds), (_, x) => match toPy x, toPys ds with
    | some p, some ps => if SeqAt.shaped p && SeqAt.shaped (.list ps) then (findD p ps).bind fun j => sc (.int j) else none
    | _, _ => none
  | _, _, _ => none
def sem3 : Op → SD → SD → SD → Option SD
  | .sl true true, x, (_, .int i), (_, .int j) => slice x (some i) (some j)
  | _, _, _, _ => none
def sem (o : Op) : List SD → Option SD
  | [a] => sem1 o a
  | [a, b] => sem2 o a b
  | [a, b, c] => sem3 o a b c
  | _ => none
/-- whose methods these are -/
def recvOk : Op → D → Bool
  | .join, .str _ => true
  | .split, .str _ => true
  | .upper, .str _ => true
  | .index, .lst _ => true
  | .count, .lst _ => true
  | _, _ => false
def contOk : Mu → D → Bool
  | .dpop, _ => false
  | .remove, _ => false
  | _, .lst _ => true
  | _, _ => false
/-- .. with a shape; what is no thing is as it is -/
def keepT (t : Sh) (e : E) (x : SD) : Option SD := if x.2.scal then some (.frz, x.2) else takeAs t e x
def mutKp (m : Mu) (y : SD) : E → SD → Option SD := match m, y.1 with
  | .append, .lst t => keepT t
  | .insert, .lst t => keepT t
  | _, _ => keepK
/-- changes of a container -/
def mutS : Mu → SD → List SD → Option (SD × SD)
  | .append, (.lst t, .lst ds), [(s, d)] => if eqSh s t && decide (ds.length < sizeLine) then some ((.frz, .non), (.lst t, .lst (ds ++ [d]))) else none
  | .insert, (.lst t, .lst ds), [(_, .int i), (s, d)] => if eqSh s t && decide (ds.length < sizeLine) && decide (0 ≤ i) && decide (i < 2 ^ 63)
      then some ((.frz, .non), (.lst t, .lst (ds.take i.toNat ++ d :: ds.drop i.toNat))) else none
  | .extend, (.lst t, .lst ds), [x] => if t.isF then ((kids x).bind fun es => match x.2 with
      | .lst _ => if ds.length + es.length ≤ sizeLine then some ((.frz, .non), (.lst .frz, .lst (ds ++ es))) else none
      | _ => none) else none
  | .pop, (.lst t, .lst ds), [] => match ds.getLast? with
      | some d => some ((t, d), (.lst t, .lst ds.dropLast))
      | none => none
  | .popAt, (.lst t, .lst ds), [(_, .int i)] => (ixN ds.length i).bind fun j => match ds[j]? with
      | some d => if decide (-(2 ^ 63) ≤ i) && decide (i < 2 ^ 63) then some ((t, d), (.lst t, .lst (ds.eraseIdx j))) else none
      | none => none
  | .reverse, (.lst t, .lst ds), [] => some ((.frz, .non), (.lst t, .lst ds.reverse))
  | .clear, (.lst t, .lst ds), [] => some ((.frz, .non), (.lst t, .lst []))
  | _, _, _ => none
/-! ### the interpreter -/
inductive CR where
  | ok (r : SD) (outs : List (Option SD))
  | ex (c : Nat) (fs : List D) (outs : List (Option SD))
structure Sig where
  modes : Nat → List Md
  init : Nat → Nat
  exOf : Nat → Nat → Bool
  gd : Nat → Nat → Bool
  grd : Nat → Bool
abbrev Calls := Nat → List SD → Option CR
inductive CA where
  | val (x : SD) | io (i : Nat)
def asgT : Tg → SD → M Unit
  | .nm i, x => setV i (some x)
  | .tup ts, (s, .tup ds) => match s with
    | .frz => asgTs ts (List.replicate ds.length .frz) ds
    | .bor => asgTs ts (List.replicate ds.length .bor) ds
    | .tup ss => asgTs ts ss ds
    | _ => M.stuck
  | _, _ => M.stuck
where asgTs : Tgs → List Sh → List D → M Unit
  | .nil, [], [] => M.pure ()
  | .cons t ts, s :: ss, d :: ds => M.bind (asgT t (if d.scal then .frz else s, d)) fun _ => asgTs ts ss ds
  | _, _, _ => M.stuck
def parT : Tgs → List SD → M Unit
  | .nil, [] => M.pure ()
  | .cons t ts, x :: xs => M.bind (asgT t x) fun _ => parT ts xs
  | _, _ => M.stuck
/-- what a loop takes from a container -/
def itemsOf (place : Bool) : SD → Option (List SD)
  | (_, .str z) => if z.length ≤ sizeLine then some (z.cps.toList.map fun c => (.frz, .str ⟨#[c]⟩)) else none
  | (.frz, .lst ds) => some (ds.map fun d => (.frz, d))
  | (.frz, .tup ds) => some (ds.map fun d => (.frz, d))
  | (.bor, .lst ds) => some (ds.map fun d => (if d.scal then .frz else .bor, d))
  | (.bor, .tup ds) => some (ds.map fun d => (if d.scal then .frz else .bor, d))
  | (.lst t, .lst ds) => if place then (match t with
      | .frz => some (ds.map fun d => (.frz, d))
      | _ => if ds.all D.scal then some (ds.map fun d => (.frz, d)) else none)
    else if wk t .frz then some (ds.map fun d => (.frz, d)) else none
  | (.tup ts, .tup ds) => if !place && ts.all (fun t => wk t .frz) then some (ds.map fun d => (.frz, d)) else if ds.all D.scal then some (ds.map fun d => (.frz, d)) else none
  | _ => none
inductive Fl where
  | nx | bk | ct | rt (r : SD)
def forD (tg : Tg) (body : M Fl) : List SD → M Fl
  | [] => M.pure .nx
  | x :: xs => M.bind (asgT tg x) fun _ => M.bind body fun f => match f with
    | .nx => forD tg body xs
    | .ct => forD tg body xs
    | .bk => M.pure .nx
    | .rt r => M.pure (.rt r)
def wipeE (own : List Nat) (env : Env) : Env := own.foldl (fun e i => e.set i none) env
def clr (own : List Nat) : M Unit := fun env => some (.ok () (wipeE own env))
def compD (own : List Nat) (tg : Tg) (cond : M Bool) (elt : M D) : List SD → M (List D)
  | [] => M.pure []
  | x :: xs => M.bind (clr own) fun _ => M.bind (asgT tg x) fun _ => M.bind cond fun b => if b then M.bind elt fun d => M.bind (compD own tg cond elt xs) fun ds => M.pure (d :: ds) else compD own tg cond elt xs
def whileN (c : M Bool) (body : M Fl) : Nat → M Fl
  | 0 => M.stuck
  | n + 1 => M.bind c fun b => if b then M.bind body fun f => match f with
      | .nx => whileN c body n
      | .ct => whileN c body n
      | .bk => M.pure .nx
      | .rt r => M.pure (.rt r)
    else M.pure .nx
open Classical in
noncomputable def whileD (c : M Bool) (body : M Fl) : M Fl := fun env => if h : ∃ n, (whileN c body n env).isSome = true then whileN c body (choose h) env else none
/-- the slots at own are the block's; behind it they are as before; no exception leaves it -/
def backE (own : List Nat) (env e : Env) : Env := own.foldl (fun e' i => e'.set i ((env[i]?).getD none)) e
def hide (own : List Nat) (m : M α) : M α := fun env => match m env with
  | some (.ok a e) => some (.ok a (backE own env e))
  | _ => none
def enums (k : Nat) : List SD → List SD
  | [] => []
  | (s, d) :: r => (.tup [.frz, s], .tup [.int k, d]) :: enums (k + 1) r
def zips : List SD → List SD → List SD
  | (s, d) :: r, (t, e) :: q => (.tup [s, t], .tup [d, e]) :: zips r q
  | _, _ => []
def rangeD (lo hi : Int) : List SD := (List.range (hi - lo).toNat).map fun (i : Nat) => (.frz, .int (lo + i))
def inR (i : Int) : Bool := decide (-(2 ^ 62) ≤ i) && decide (i < 2 ^ 62)
def rangeOf : List SD → Option (List SD)
  | [(_, .int n)] => if inR n then some (rangeD 0 n) else none
  | [(_, .int a), (_, .int b)] => if inR a && inR b then some (rangeD a b) else none
  | _ => none
def truth (x : SD) : Option Bool := match x.2 with
  | .bl b => some b
  | _ => none
/-- .. of any kind -/
def truthG (x : SD) : Option Bool := match x.2 with
  | .bl b => some b
  | .non => some false
  | .int i => some (i != 0)
  | .lst ds => some (!ds.isEmpty)
  | _ => none
/-- the first of two by truth, to be kept -/
def orK (e : E) (x : SD) : Option SD := if x.2.scal then some (.frz, x.2) else keepK e x
def Sh.given (s : Sh) : Bool := noB s && !s.lent
def ioGet (env : Env) : CA → Option SD
  | .val x => some x
  | .io i => match env[i]? with
    | some (some x) => if x.1.given then some x else none
    | _ => none
def ioGets (env : Env) : List CA → Option (List SD)
  | [] => some []
  | c :: cs => (ioGet env c).bind fun x => (ioGets env cs).map fun xs => x :: xs
def ioBack (env : Env) : List CA → List (Option SD) → Option Env
  | [], _ => some env
  | .val _ :: cs, _ :: os => ioBack env cs os
  | .io i :: cs, some x :: os => if x.1.given then ioBack (env.set i (some x)) cs os else none
  | _, _ => none
def doCall (cl : Calls) (f : Nat) (cas : List CA) : M SD := fun env => (ioGets env cas).bind fun args => match cl f args with
  | some (.ok r outs) => if noB r.1 then (ioBack env cas outs).map fun e => .ok r e else none
  | some (.ex c fs outs) => (ioBack env cas outs).map fun e => .ex c fs e
  | none => none
def argAs (e : E) (m : Md) (r : SD) : Option CA := match m with
  | .bor => if r.2.scal then some (.val (.frz, r.2)) else if e.place || r.1.isB || noB r.1 then some (.val (.bor, r.2)) else none
  | .frz => (takeAs .frz e r).map .val
  | .own s => (takeAs s e r).map .val
  | .io => none
section
variable (sg : Sig) (cl : Calls)
mutual
def ev : E → M SD
  | .pl p => fun env => (p.get sg.gd env).map fun x => .ok x env
  | .mv i => M.bind (getV i) fun x => if x.1.isB then (if x.2.scal then M.pure (.frz, x.2) else M.stuck) else M.bind (setV i none) fun _ => M.pure x
  | .fz i => M.bind (getV i) fun x => if x.1.isB then (if x.2.scal then M.pure (.frz, x.2) else M.stuck) else if noB x.1 then M.bind (setV i (some (.frz, x.2))) fun _ => M.pure (.frz, x.2) else M.stuck
  | .cst d => M.pure (.frz, d)
  | .glo _ d => M.pure (.frz, d)
  | .app o as => M.bind (evs as) fun ds => M.opt (sem o ds)
  | .bm o a as => M.bind (ev a) fun x => if recvOk o x.2 then M.bind (evs as) fun ys => M.opt (sem o (x :: ys)) else M.stuck
  | .sl2 a b c => M.bind (ev a) fun x => M.bind (ev b) fun y => if y.2.isInt then M.bind (ev c) fun z => M.opt (sem (.sl true true) [x, y, z]) else M.stuck
  | .chn o p a b c => M.bind (ev a) fun x => M.bind (ev b) fun y => M.bind (M.opt (sem o [x, y])) fun r => M.bind (M.opt (truth r)) fun k => if k then M.bind (ev c) fun z => M.opt (sem p [y, z]) else M.pure (.frz, .bl false)
  | .tup as => M.bind (evG take as) fun xs => M.pure (if xs.all (fun x => x.1.isF) then (.frz, .tup (xs.map (·.2))) else (.tup (xs.map (·.1)), .tup (xs.map (·.2))))
  | .lst s as => M.bind (evG (takeAs s) as) fun xs => M.pure (.lst s, .lst (xs.map (·.2)))
  | .newd t s => M.pure (.dic s, if t then .dit [] else .dic [])
  | .and a b => M.bind (ev a) fun x => M.bind (M.opt (truth x)) fun c => if c then M.bind (ev b) fun y => M.opt (if b.place then share y else some y) else M.pure (.frz, .bl false)
  | .or a b => M.bind (ev a) fun x => M.bind (M.opt (truth x)) fun c => if c then M.pure (.frz, .bl true) else M.bind (ev b) fun y => M.opt (if b.place then share y else some y)
  | .not a => M.bind (ev a) fun x => M.bind (M.opt (truth x)) fun c => M.pure (.frz, .bl (!c))
  | .ite c a b => M.bind (ev c) fun x => M.bind (M.opt (truth x)) fun c => if c then M.bind (ev a) fun y => M.opt (if a.place then share y else some y) else M.bind (ev b) fun y => M.opt (if b.place then share y else some y)
  | .attr e f => M.bind (ev e) fun x => M.opt ((attrOf sg.gd x f).bind share)
  | .mut m p as => fun env => (p.get sg.gd env).bind fun y => if contOk m y.2 then M.bind (evG (mutKp m y) as) (fun xs => fun env2 => (mutS m y xs).bind fun (r, z) => (p.up sg.gd env z).map fun z' => .ok r (env2.set p.root (some z'))) env else none
  | .call f as => M.bind (evC (sg.modes f) as) fun cas => doCall cl f cas
  | .mcall c f o as => match sg.modes f with
    | [] => M.stuck
    | m :: ms => M.bind (ev o) fun x => match x.2 with
      | .obj d fs => if d = c && fs.all (fun z => sg.gd c z.1) then M.bind (M.opt (argAs o m x)) fun ca => M.bind (evC ms as) fun cas => doCall cl f (ca :: cas) else M.stuck
      | _ => M.stuck
  | .new c as => M.bind (evC ((sg.modes (sg.init c)).drop 1) as) fun cas => fun env => (ioGets env cas).bind fun args => match cl (sg.init c) ((.obj [], .obj c []) :: args) with
    | some (.ok (.frz, .non) (some x :: outs)) => if x.1.given then (ioBack env cas outs).map fun e => .ok x e else none
    | _ => none
  | .lc own tg it ifs elt s => M.bind (its it) fun xs => M.bind (hide own (compD own tg (cond ifs) (M.bind (ev elt) fun r => M.bind (M.opt (takeAs s elt r)) fun q => M.pure q.2) xs)) fun ds =>
      if ds.length ≤ sizeLine then M.pure (.lst s, .lst ds) else M.stuck
  | .dc .. => M.stuck
  | .sc .. => M.stuck
  | .wall => M.stuck
  | .fzt a => M.bind (ev a) fun y => M.opt (takeAs .frz a y)
  | .orv a b => M.bind (ev a) fun x => M.bind (M.opt (truthG x)) fun c => if c then M.opt (orK a x) else M.bind (ev b) fun y => M.opt (keepK b y)
def evs : Es → M (List SD)
  | .nil => M.pure []
  | .cons e es => M.bind (ev e) fun x => M.bind (evs es) fun xs => M.pure (x :: xs)
def evG (kp : E → SD → Option SD) : Es → M (List SD)
  | .nil => M.pure []
  | .cons e es => M.bind (ev e) fun x => M.bind (M.opt (kp e x)) fun y => M.bind (evG kp es) fun xs => M.pure (y :: xs)
def evC : List Md → Es → M (List CA)
  | [], .nil => M.pure []
  | .io :: ms, .cons (.pl (.var i)) es => M.bind (getV i) fun _ => M.bind (evC ms es) fun cas => M.pure (.io i :: cas)
  | m :: ms, .cons e es => M.bind (ev e) fun x => M.bind (M.opt (argAs e m x)) fun ca => M.bind (evC ms es) fun cas => M.pure (ca :: cas)
  | _, _ => M.stuck
def cond : Es → M Bool
  | .nil => M.pure true
  | .cons e .nil => M.bind (ev e) fun x => M.opt (truth x)
  | _ => M.stuck
def its : It → M (List SD)
  | .e x => M.bind (ev x) fun r => M.opt (itemsOf x.place r)
  | .rng as => M.bind (evs as) fun r => M.opt (rangeOf r)
  | .enum x => M.bind (ev x) fun r => if r.2.isLst then M.bind (M.opt (itemsOf x.place r)) fun xs => M.pure (enums 0 xs) else M.stuck
  | .zip x y => M.bind (ev x) fun r => if r.2.isLst then M.bind (M.opt (itemsOf x.place r)) fun xs => M.bind (ev y) fun q => if q.2.isLst then M.bind (M.opt (itemsOf y.place q)) fun ys => M.pure (zips xs ys) else M.stuck else M.stuck
  | .dict x => M.bind (ev x) fun r => match r.2 with
    | .dic kvs => M.pure (kvs.map fun kv => (.frz, match kv.1 with | .inl i => D.int i | .inr z => D.str z))
    | _ => M.stuck
end
/-- an item set -/
def itemSet (y : SD) (k : D) (x : D) : Option SD := match y with
  | (.lst t, .lst ds) => match k with
    | .int i => (ixN ds.length i).map fun j => (.lst t, .lst (ds.set j x))
    | _ => none
  | (.dic t, .dic kvs) => if kvs.length < sizeLine then (keyOf k).map fun k => (.dic t, .dic (putA k x kvs)) else none
  | (.dic t, .dit kvs) => if kvs.length < sizeLine then (tkeyOf k).map fun k => (.dic t, .dit (putA k x kvs)) else none
  | _ => none
def Sh.isC : Sh → Bool
  | .lst _ => true
  | .dic _ => true
  | _ => false
/-- what the items of a container are -/
def Sh.kid : Sh → Sh
  | .lst t => t
  | .dic t => t
  | _ => .frz
mutual
noncomputable def st : S → M Fl
  | .asg tg e => M.bind (ev sg cl e) fun x => M.bind (M.opt (keepK e x)) fun y => M.bind (asgT tg y) fun _ => M.pure .nx
  | .par ts es => M.bind (evG sg cl keepK es) fun xs => M.bind (parT ts xs) fun _ => M.pure .nx
  | .seti p k e => M.bind (ev sg cl e) fun x => fun env => (p.get sg.gd env).bind fun y => (keepT y.1.kid e x).bind fun x' => M.bind (ev sg cl k) (fun kd => fun env2 => if eqSh x'.1 y.1.kid then (itemSet y kd.2 x'.2).bind fun z => (p.up sg.gd env z).map fun z' => .ok .nx (env2.set p.root (some z')) else none) env
  | .seta p f e => M.bind (ev sg cl e) fun x => M.bind (M.opt (take e x)) fun x' => fun env => (p.get sg.gd env).bind fun y => (attrPut sg.gd y f x').bind fun z => (p.up sg.gd env z).map fun z' => .ok .nx (env.set p.root (some z'))
  | .augv i o e => M.bind (getV i) fun x => if x.2.scal then M.bind (ev sg cl e) fun y => M.bind (M.opt (sem o [x, y])) fun r => if r.2.scal then M.bind (setV i (some (.frz, r.2))) fun _ => M.pure .nx else M.stuck else M.stuck
  | .augi p k o e => fun env => (p.get sg.gd env).bind fun y => if y.1.isC && y.1.kid.isF then M.bind (ev sg cl k) (fun kd => M.bind (M.opt (itemOf y kd.2)) fun it => if it.2.scal && kd.2.scal then M.bind (ev sg cl e) fun x => M.bind (M.opt (sem o [it, x])) fun r => if r.2.scal then fun env2 => (itemSet y kd.2 r.2).bind fun z => (p.up sg.gd env z).map fun z' => .ok .nx (env2.set p.root (some z')) else M.stuck else M.stuck) env else none
  | .ife c a b => M.bind (ev sg cl c) fun x => M.bind (M.opt (truth x)) fun k => if k then sts a else sts b
  | .for tg it body => M.bind (its sg cl it) fun xs => forD tg (sts body) xs
  | .whl c body => whileD (M.bind (ev sg cl c) fun x => M.opt (truth x)) (sts body)
  | .ret e => M.bind (ev sg cl e) fun x => M.bind (M.opt (take e x)) fun y => M.pure (.rt y)
  | .ret0 => M.pure (.rt (.frz, .non))
  | .exp e => M.bind (ev sg cl e) fun _ => M.pure .nx
  | .pass => M.pure .nx
  | .brk => M.pure .bk
  | .cnt => M.pure .ct
  | .rais c as => M.bind (evG sg cl (takeAs .frz) as) fun xs => fun env => some (.ex c (xs.map (·.2)) env)
  | .tryx _ _ _ _ => M.stuck
  | .wall => M.stuck
noncomputable def sts : Ss → M Fl
  | .nil => M.pure .nx
  | .cons s ss => M.bind (st s) fun f => match f with
    | .nx => sts ss
    | .bk => M.pure .bk
    | .ct => M.pure .ct
    | .rt r => M.pure (.rt r)
end
end
/-- the defs: how many names, the body -/
structure Prog where
  sg : Sig
  defs : Nat → Option (Nat × Ss)
def outsOf (env : Env) : Nat → List Md → List (Option SD)
  | _, [] => []
  | i, m :: ms => (match m with
    | .io => (env[i]?).getD none
    | _ => none) :: outsOf env (i + 1) ms
noncomputable def callD (P : Prog) : Nat → Calls
  | 0 => fun _ _ => none
  | n + 1 => fun f args => match P.defs f with
    | some (k, body) => match sts P.sg (callD P n) body (args.map some ++ List.replicate (k - args.length) none) with
      | some (.ok (.rt r) env) => some (.ok r (outsOf env 0 (P.sg.modes f)))
      | some (.ok .nx env) => some (.ok (.frz, .non) (outsOf env 0 (P.sg.modes f)))
      | some (.ex c fs env) => some (.ex c fs (outsOf env 0 (P.sg.modes f)))
      | _ => none
    | none => none
end DI
/-! DI2: how plain data lies in the abstract heap. -/
namespace DI
open PySem L2
abbrev Hp := L2.Hp
/-- where the classes stand, how the fields are called -/
structure Wd where
  K : PySem.W.Frag
  ca : Nat → Addr
  fn : Nat → Str
  /-- slots whose values stay: they are handed back -/
  io : List (Nat × V)
/-- with other slots -/
abbrev Wd.on (w : Wd) (l : List (Nat × V)) : Wd := { w with io := l }
abbrev Ex (H H' : Hp) : Prop := ∀ a o, H a = some o → H' a = some o
theorem ex_refl (H : Hp) : Ex H H := fun _ _ h => h
theorem ex_trans {H H1 H2 : Hp} (a : Ex H H1) (b : Ex H1 H2) : Ex H H2 := fun x o h => b x o (a x o h)
theorem ex_none {H H' : Hp} (e : Ex H H') {a : Addr} (h : H' a = none) : H a = none := by
  cases q : H a with
  | none => rfl
  | some o => rw [e a o q] at h; cases h
theorem ex_upd {H : Hp} {p : Addr} {o : HO} (h : H p = none) : Ex H (upd H p o) := fun a u e => by
  rw [upd_ne (ne_of_none e h)]
  exact e
section
variable (w : Wd) (F B H : Hp)
mutual
def Rep : D → V → Prop
  | .non, v => v = .non
  | .bl b, v => v = .bl b
  | .int i, v => v = .int i
  | .str s, v => v = .str s
  | .tup ds, v => ∃ a vs, v = .ref a ∧ F a = some (.tup vs) ∧ Reps ds vs
  | .lst ds, v => ∃ a vs, v = .ref a ∧ F a = some (.lst vs) ∧ Reps ds vs
  | .dic kvs, v => ∃ a ws, v = .ref a ∧ F a = some (.dK ws) ∧ RepK kvs ws
  | .dit kvs, v => ∃ a ws, v = .ref a ∧ F a = some (.dT ws) ∧ RepT kvs ws
  | .obj c fs, v => ∃ a dx ws, v = .ref a ∧ F a = some (.ins (w.ca c) dx ws) ∧ F dx = some (.own a) ∧ RepF fs ws
  | .scr ns, v => ∃ a, v = .ref a ∧ SqL w.K F a (ns.map V.int)
def Reps : List D → List V → Prop
  | [], vs => vs = []
  | d :: ds, vs => ∃ v r, vs = v :: r ∧ Rep d v ∧ Reps ds r
def RepK : List (Key × D) → List (Key × V) → Prop
  | [], ws => ws = []
  | (k, d) :: r, ws => ∃ v q, ws = (k, v) :: q ∧ Rep d v ∧ RepK r q
def RepT : List (List Key × D) → List (List Key × V) → Prop
  | [], ws => ws = []
  | (k, d) :: r, ws => ∃ v q, ws = (k, v) :: q ∧ Rep d v ∧ RepT r q
def RepF : List (Nat × D) → List (Str × V) → Prop
  | [], ws => ws = []
  | (f, d) :: r, ws => ∃ v q, ws = (w.fn f, v) :: q ∧ Rep d v ∧ RepF r q
end
mutual
def RepS : D → Sh → V → List Addr → Prop
  | .lst ds, .lst s, v, fp => ∃ a vs fq, v = .ref a ∧ fp = a :: fq ∧ H a = some (.lst vs) ∧ RepSs ds s vs fq
  | .dic kvs, .dic s, v, fp => ∃ a ws fq, v = .ref a ∧ fp = a :: fq ∧ H a = some (.dK ws) ∧ RepSk kvs s ws fq
  | .dit kvs, .dic s, v, fp => ∃ a ws fq, v = .ref a ∧ fp = a :: fq ∧ H a = some (.dT ws) ∧ RepSt kvs s ws fq
  | .tup ds, .tup ss, v, fp => ∃ a vs, v = .ref a ∧ H a = some (.tup vs) ∧ RepSu ds ss vs fp
  | .obj c fs, .obj ss, v, fp => ∃ a dx ws fq, v = .ref a ∧ fp = a :: dx :: fq ∧ H a = some (.ins (w.ca c) dx ws) ∧ H dx = some (.own a) ∧ RepSf fs ss ws fq
  | d, .frz, v, fp => Rep w F d v ∧ fp = []
  | d, .bor, v, fp => Rep w B d v ∧ fp = []
  | _, _, _, _ => False
def RepSs : List D → Sh → List V → List Addr → Prop
  | [], _, vs, fp => vs = [] ∧ fp = []
  | d :: ds, s, vs, fp => ∃ v r f1 f2, vs = v :: r ∧ fp = f1 ++ f2 ∧ RepS d s v f1 ∧ RepSs ds s r f2
def RepSk : List (Key × D) → Sh → List (Key × V) → List Addr → Prop
  | [], _, vs, fp => vs = [] ∧ fp = []
  | (k, d) :: ds, s, vs, fp => ∃ v r f1 f2, vs = (k, v) :: r ∧ fp = f1 ++ f2 ∧ RepS d s v f1 ∧ RepSk ds s r f2
def RepSt : List (List Key × D) → Sh → List (List Key × V) → List Addr → Prop
  | [], _, vs, fp => vs = [] ∧ fp = []
  | (k, d) :: ds, s, vs, fp => ∃ v r f1 f2, vs = (k, v) :: r ∧ fp = f1 ++ f2 ∧ RepS d s v f1 ∧ RepSt ds s r f2
def RepSu : List D → List Sh → List V → List Addr → Prop
  | [], [], vs, fp => vs = [] ∧ fp = []
  | d :: ds, s :: ss, vs, fp => ∃ v r f1 f2, vs = v :: r ∧ fp = f1 ++ f2 ∧ RepS d s v f1 ∧ RepSu ds ss r f2
  | _, _, _, _ => False
def RepSf : List (Nat × D) → List (Nat × Sh) → List (Str × V) → List Addr → Prop
  | [], [], vs, fp => vs = [] ∧ fp = []
  | (f, d) :: ds, (g, s) :: ss, vs, fp => ∃ v r f1 f2, f = g ∧ vs = (w.fn f, v) :: r ∧ fp = f1 ++ f2 ∧ RepS d s v f1 ∧ RepSf ds ss r f2
  | _, _, _, _ => False
end
end
variable {w : Wd} {F F' B B' H H' : Hp}
/-! ### what stays -/
theorem rd_ex {a : Addr} {u : HO} (e : Ex F F') (h : Rd F a u) : Rd F' a u := by
  rcases h with h | ⟨o, h⟩
  · exact Or.inl (e a _ h)
  · exact Or.inr ⟨o, e a _ h⟩
theorem sl_ex {a : Addr} {xs : List V} (e : Ex F F') (h : SqL w.K F a xs) : SqL w.K F' a xs := by
  rcases h with h | h
  · exact Or.inl (rd_ex e h)
  · exact Or.inr h
theorem st_ex {a : Addr} {xs : List V} (e : Ex F F') (h : SqT w.K F a xs) : SqT w.K F' a xs := by
  rcases h with h | h
  · exact Or.inl (rd_ex e h)
  · exact Or.inr h
mutual
theorem Rep.monoL (l : List (Nat × V)) (e : Ex F F') : ∀ (d : D) (v : V), Rep w F d v → Rep (w.on l) F' d v
  | .non, _, h => h
  | .bl _, _, h => h
  | .int _, _, h => h
  | .str _, _, h => h
  | .tup ds, _, h => by
    obtain ⟨a, vs, e1, e2, e3⟩ := h
    exact ⟨a, vs, e1, e _ _ e2, Reps.monoL l e ds vs e3⟩
  | .lst ds, _, h => by
    obtain ⟨a, vs, e1, e2, e3⟩ := h
    exact ⟨a, vs, e1, e _ _ e2, Reps.monoL l e ds vs e3⟩
  | .dic ds, _, h => by
    obtain ⟨a, vs, e1, e2, e3⟩ := h
    exact ⟨a, vs, e1, e _ _ e2, RepK.monoL l e ds vs e3⟩
  | .dit ds, _, h => by
    obtain ⟨a, vs, e1, e2, e3⟩ := h
    exact ⟨a, vs, e1, e _ _ e2, RepT.monoL l e ds vs e3⟩
  | .obj c fs, _, h => by
    obtain ⟨a, dx, vs, e1, e2, e3, e4⟩ := h
    exact ⟨a, dx, vs, e1, e _ _ e2, e _ _ e3, RepF.monoL l e fs vs e4⟩
  | .scr ns, _, h => by
    obtain ⟨a, e1, e2⟩ := h
    exact ⟨a, e1, sl_ex e e2⟩
theorem Reps.monoL (l : List (Nat × V)) (e : Ex F F') : ∀ (ds : List D) (vs : List V), Reps w F ds vs → Reps (w.on l) F' ds vs
  | [], _, h => h
  | d :: ds, _, h => by
    obtain ⟨v, r, e1, e2, e3⟩ := h
    exact ⟨v, r, e1, Rep.monoL l e d v e2, Reps.monoL l e ds r e3⟩
theorem RepK.monoL (l : List (Nat × V)) (e : Ex F F') : ∀ (ds : List (Key × D)) (vs : List (Key × V)), RepK w F ds vs → RepK (w.on l) F' ds vs
  | [], _, h => h
  | (k, d) :: ds, _, h => by
    obtain ⟨v, r, e1, e2, e3⟩ := h
    exact ⟨v, r, e1, Rep.monoL l e d v e2, RepK.monoL l e ds r e3⟩
theorem RepT.monoL (l : List (Nat × V)) (e : Ex F F') : ∀ (ds : List (List Key × D)) (vs : List (List Key × V)), RepT w F ds vs → RepT (w.on l) F' ds vs
  | [], _, h => h
  | (k, d) :: ds, _, h => by
    obtain ⟨v, r, e1, e2, e3⟩ := h
    exact ⟨v, r, e1, Rep.monoL l e d v e2, RepT.monoL l e ds r e3⟩
theorem RepF.monoL (l : List (Nat × V)) (e : Ex F F') : ∀ (ds : List (Nat × D)) (vs : List (Str × V)), RepF w F ds vs → RepF (w.on l) F' ds vs
  | [], _, h => h
  | (k, d) :: ds, _, h => by
    obtain ⟨v, r, e1, e2, e3⟩ := h
    exact ⟨v, r, e1, Rep.monoL l e d v e2, RepF.monoL l e ds r e3⟩
end
theorem Rep.mono (e : Ex F F') : ∀ (d : D) (v : V), Rep w F d v → Rep w F' d v := Rep.monoL w.io e
theorem Reps.mono (e : Ex F F') : ∀ (ds : List D) (vs : List V), Reps w F ds vs → Reps w F' ds vs := Reps.monoL w.io e
theorem RepK.mono (e : Ex F F') : ∀ (ds : List (Key × D)) (vs : List (Key × V)), RepK w F ds vs → RepK w F' ds vs := RepK.monoL w.io e
theorem RepT.mono (e : Ex F F') : ∀ (ds : List (List Key × D)) (vs : List (List Key × V)), RepT w F ds vs → RepT w F' ds vs := RepT.monoL w.io e
theorem RepF.mono (e : Ex F F') : ∀ (ds : List (Nat × D)) (vs : List (Str × V)), RepF w F ds vs → RepF w F' ds vs := RepF.monoL w.io e

/-! ### what is held -/
def notTup : HO → Prop
  | .tup _ => False
  | _ => True
theorem RepS_frz {d : D} {v : V} {fp : List Addr} : RepS w F B H d .frz v fp ↔ Rep w F d v ∧ fp = [] := by cases d <;> exact Iff.rfl
theorem RepS_bor {d : D} {v : V} {fp : List Addr} : RepS w F B H d .bor v fp ↔ Rep w B d v ∧ fp = [] := by cases d <;> exact Iff.rfl
theorem RepS_lst {d : D} {s : Sh} {v : V} {fp : List Addr} (h : RepS w F B H d (.lst s) v fp) : ∃ ds, d = .lst ds := by
  cases d <;> first | exact ⟨_, rfl⟩ | exact False.elim h
theorem RepS_dic {d : D} {s : Sh} {v : V} {fp : List Addr} (h : RepS w F B H d (.dic s) v fp) : (∃ ds, d = .dic ds) ∨ ∃ ds, d = .dit ds := by
  cases d <;> first | exact .inl ⟨_, rfl⟩ | exact .inr ⟨_, rfl⟩ | exact False.elim h
theorem RepS_tup {d : D} {s : List Sh} {v : V} {fp : List Addr} (h : RepS w F B H d (.tup s) v fp) : ∃ ds, d = .tup ds := by
  cases d <;> first | exact ⟨_, rfl⟩ | exact False.elim h
theorem RepS_obj {d : D} {s : List (Nat × Sh)} {v : V} {fp : List Addr} (h : RepS w F B H d (.obj s) v fp) : ∃ c ds, d = .obj c ds := by
  cases d <;> first | exact ⟨_, _, rfl⟩ | exact False.elim h
mutual
theorem RepS.monoL (l : List (Nat × V)) (e : Ex F F') (eb : Ex B B') (et : ∀ a xs, H a = some (.tup xs) → H' a = some (.tup xs)) : ∀ (d : D) (s : Sh) (v : V) (fp : List Addr), (∀ a o, a ∈ fp → H a = some o → H' a = some o) →
    RepS w F B H d s v fp → RepS (w.on l) F' B' H' d s v fp := fun d s v fp eh h => by
  cases s with
  | frz => exact RepS_frz.mpr ⟨Rep.monoL l e _ _ (RepS_frz.mp h).1, (RepS_frz.mp h).2⟩
  | bor => exact RepS_bor.mpr ⟨Rep.monoL l eb _ _ (RepS_bor.mp h).1, (RepS_bor.mp h).2⟩
  | lst s =>
    cases d with
    | lst ds =>
      obtain ⟨a, vs, fq, e1, e2, e3, e4⟩ := h
      subst e2
      exact ⟨a, vs, fq, e1, rfl, eh _ _ (by simp) e3, RepSs.monoL l e eb et ds s vs fq (fun b o hb => eh b o (by simp [hb])) e4⟩
    | _ => exact False.elim h
  | dic s =>
    cases d with
    | dic ds =>
      obtain ⟨a, vs, fq, e1, e2, e3, e4⟩ := h
      subst e2
      exact ⟨a, vs, fq, e1, rfl, eh _ _ (by simp) e3, RepSk.monoL l e eb et ds s vs fq (fun b o hb => eh b o (by simp [hb])) e4⟩
    | dit ds =>
      obtain ⟨a, vs, fq, e1, e2, e3, e4⟩ := h
      subst e2
      exact ⟨a, vs, fq, e1, rfl, eh _ _ (by simp) e3, RepSt.monoL l e eb et ds s vs fq (fun b o hb => eh b o (by simp [hb])) e4⟩
    | _ => exact False.elim h
  | tup ss =>
    cases d with
    | tup ds =>
      obtain ⟨a, vs, e1, e3, e4⟩ := h
      exact ⟨a, vs, e1, et _ _ e3, RepSu.monoL l e eb et ds ss vs fp eh e4⟩
    | _ => exact False.elim h
  | obj ss =>
    cases d with
    | obj c ds =>
      obtain ⟨a, dx, vs, fq, e1, e2, e3, e4, e5⟩ := h
      subst e2
      exact ⟨a, dx, vs, fq, e1, rfl, eh _ _ (by simp) e3, eh _ _ (by simp) e4, RepSf.monoL l e eb et ds ss vs fq (fun b o hb => eh b o (by simp [hb])) e5⟩
    | _ => exact False.elim h
theorem RepSs.monoL (l : List (Nat × V)) (e : Ex F F') (eb : Ex B B') (et : ∀ a xs, H a = some (.tup xs) → H' a = some (.tup xs)) : ∀ (d : List D) (s : Sh) (v : List V) (fp : List Addr), (∀ a o, a ∈ fp → H a = some o → H' a = some o) →
    RepSs w F B H d s v fp → RepSs (w.on l) F' B' H' d s v fp
  | [], _, _, _, _, h => h
  | d :: ds, s, _, _, eh, h => by
    obtain ⟨v, r, f1, f2, e1, e2, e3, e4⟩ := h
    subst e2
    exact ⟨v, r, f1, f2, e1, rfl, RepS.monoL l e eb et d s v f1 (fun a o ha => eh a o (by simp [ha])) e3, RepSs.monoL l e eb et ds s r f2 (fun a o ha => eh a o (by simp [ha])) e4⟩
theorem RepSk.monoL (l : List (Nat × V)) (e : Ex F F') (eb : Ex B B') (et : ∀ a xs, H a = some (.tup xs) → H' a = some (.tup xs)) : ∀ (d : List (Key × D)) (s : Sh) (v : List (Key × V)) (fp : List Addr), (∀ a o, a ∈ fp → H a = some o → H' a = some o) →
    RepSk w F B H d s v fp → RepSk (w.on l) F' B' H' d s v fp
  | [], _, _, _, _, h => h
  | (k, d) :: ds, s, _, _, eh, h => by
    obtain ⟨v, r, f1, f2, e1, e2, e3, e4⟩ := h
    subst e2
    exact ⟨v, r, f1, f2, e1, rfl, RepS.monoL l e eb et d s v f1 (fun a o ha => eh a o (by simp [ha])) e3, RepSk.monoL l e eb et ds s r f2 (fun a o ha => eh a o (by simp [ha])) e4⟩
theorem RepSt.monoL (l : List (Nat × V)) (e : Ex F F') (eb : Ex B B') (et : ∀ a xs, H a = some (.tup xs) → H' a = some (.tup xs)) : ∀ (d : List (List Key × D)) (s : Sh) (v : List (List Key × V)) (fp : List Addr), (∀ a o, a ∈ fp → H a = some o → H' a = some o) →
    RepSt w F B H d s v fp → RepSt (w.on l) F' B' H' d s v fp
  | [], _, _, _, _, h => h
  | (k, d) :: ds, s, _, _, eh, h => by
    obtain ⟨v, r, f1, f2, e1, e2, e3, e4⟩ := h
    subst e2
    exact ⟨v, r, f1, f2, e1, rfl, RepS.monoL l e eb et d s v f1 (fun a o ha => eh a o (by simp [ha])) e3, RepSt.monoL l e eb et ds s r f2 (fun a o ha => eh a o (by simp [ha])) e4⟩
theorem RepSu.monoL (l : List (Nat × V)) (e : Ex F F') (eb : Ex B B') (et : ∀ a xs, H a = some (.tup xs) → H' a = some (.tup xs)) : ∀ (d : List D) (s : List Sh) (v : List V) (fp : List Addr), (∀ a o, a ∈ fp → H a = some o → H' a = some o) →
    RepSu w F B H d s v fp → RepSu (w.on l) F' B' H' d s v fp
  | [], [], _, _, _, h => h
  | [], _ :: _, _, _, _, h => False.elim h
  | _ :: _, [], _, _, _, h => False.elim h
  | d :: ds, s :: ss, _, _, eh, h => by
    obtain ⟨v, r, f1, f2, e1, e2, e3, e4⟩ := h
    subst e2
    exact ⟨v, r, f1, f2, e1, rfl, RepS.monoL l e eb et d s v f1 (fun a o ha => eh a o (by simp [ha])) e3, RepSu.monoL l e eb et ds ss r f2 (fun a o ha => eh a o (by simp [ha])) e4⟩
theorem RepSf.monoL (l : List (Nat × V)) (e : Ex F F') (eb : Ex B B') (et : ∀ a xs, H a = some (.tup xs) → H' a = some (.tup xs)) : ∀ (d : List (Nat × D)) (s : List (Nat × Sh)) (v : List (Str × V)) (fp : List Addr), (∀ a o, a ∈ fp → H a = some o → H' a = some o) →
    RepSf w F B H d s v fp → RepSf (w.on l) F' B' H' d s v fp
  | [], [], _, _, _, h => h
  | [], _ :: _, _, _, _, h => False.elim h
  | _ :: _, [], _, _, _, h => False.elim h
  | (k, d) :: ds, (g, s) :: ss, _, _, eh, h => by
    obtain ⟨v, r, f1, f2, e0, e1, e2, e3, e4⟩ := h
    subst e2
    exact ⟨v, r, f1, f2, e0, e1, rfl, RepS.monoL l e eb et d s v f1 (fun a o ha => eh a o (by simp [ha])) e3, RepSf.monoL l e eb et ds ss r f2 (fun a o ha => eh a o (by simp [ha])) e4⟩
end
theorem RepS.mono (e : Ex F F') (eb : Ex B B') (et : ∀ a xs, H a = some (.tup xs) → H' a = some (.tup xs)) : ∀ (d : D) (s : Sh) (v : V) (fp : List Addr), (∀ a o, a ∈ fp → H a = some o → H' a = some o) →
    RepS w F B H d s v fp → RepS w F' B' H' d s v fp := RepS.monoL w.io e eb et
theorem RepSs.mono (e : Ex F F') (eb : Ex B B') (et : ∀ a xs, H a = some (.tup xs) → H' a = some (.tup xs)) : ∀ (d : List D) (s : Sh) (v : List V) (fp : List Addr), (∀ a o, a ∈ fp → H a = some o → H' a = some o) →
    RepSs w F B H d s v fp → RepSs w F' B' H' d s v fp := RepSs.monoL w.io e eb et
theorem RepSk.mono (e : Ex F F') (eb : Ex B B') (et : ∀ a xs, H a = some (.tup xs) → H' a = some (.tup xs)) : ∀ (d : List (Key × D)) (s : Sh) (v : List (Key × V)) (fp : List Addr), (∀ a o, a ∈ fp → H a = some o → H' a = some o) →
    RepSk w F B H d s v fp → RepSk w F' B' H' d s v fp := RepSk.monoL w.io e eb et
theorem RepSt.mono (e : Ex F F') (eb : Ex B B') (et : ∀ a xs, H a = some (.tup xs) → H' a = some (.tup xs)) : ∀ (d : List (List Key × D)) (s : Sh) (v : List (List Key × V)) (fp : List Addr), (∀ a o, a ∈ fp → H a = some o → H' a = some o) →
    RepSt w F B H d s v fp → RepSt w F' B' H' d s v fp := RepSt.monoL w.io e eb et
theorem RepSu.mono (e : Ex F F') (eb : Ex B B') (et : ∀ a xs, H a = some (.tup xs) → H' a = some (.tup xs)) : ∀ (d : List D) (s : List Sh) (v : List V) (fp : List Addr), (∀ a o, a ∈ fp → H a = some o → H' a = some o) →
    RepSu w F B H d s v fp → RepSu w F' B' H' d s v fp := RepSu.monoL w.io e eb et
theorem RepSf.mono (e : Ex F F') (eb : Ex B B') (et : ∀ a xs, H a = some (.tup xs) → H' a = some (.tup xs)) : ∀ (d : List (Nat × D)) (s : List (Nat × Sh)) (v : List (Str × V)) (fp : List Addr), (∀ a o, a ∈ fp → H a = some o → H' a = some o) →
    RepSf w F B H d s v fp → RepSf w F' B' H' d s v fp := RepSf.monoL w.io e eb et
mutual
/-- read in the whole heap -/
theorem RepS.all (e : Ex F H) (eb : Ex B H) : ∀ (d : D) (s : Sh) (v : V) (fp : List Addr), RepS w F B H d s v fp → Rep w H d v := fun d s v fp h => by
  cases s with
  | frz => exact Rep.mono e _ _ (RepS_frz.mp h).1
  | bor => exact Rep.mono eb _ _ (RepS_bor.mp h).1
  | lst s =>
    cases d with
    | lst ds =>
      obtain ⟨a, vs, fq, e1, e2, e3, e4⟩ := h
      exact ⟨a, vs, e1, e3, RepSs.all e eb ds s vs fq e4⟩
    | _ => exact False.elim h
  | dic s =>
    cases d with
    | dic ds =>
      obtain ⟨a, vs, fq, e1, e2, e3, e4⟩ := h
      exact ⟨a, vs, e1, e3, RepSk.all e eb ds s vs fq e4⟩
    | dit ds =>
      obtain ⟨a, vs, fq, e1, e2, e3, e4⟩ := h
      exact ⟨a, vs, e1, e3, RepSt.all e eb ds s vs fq e4⟩
    | _ => exact False.elim h
  | tup ss =>
    cases d with
    | tup ds =>
      obtain ⟨a, vs, e1, e3, e4⟩ := h
      exact ⟨a, vs, e1, e3, RepSu.all e eb ds ss vs fp e4⟩
    | _ => exact False.elim h
  | obj ss =>
    cases d with
    | obj c ds =>
      obtain ⟨a, dx, vs, fq, e1, e2, e3, e4, e5⟩ := h
      exact ⟨a, dx, vs, e1, e3, e4, RepSf.all e eb ds ss vs fq e5⟩
    | _ => exact False.elim h
theorem RepSs.all (e : Ex F H) (eb : Ex B H) : ∀ (d : List D) (s : Sh) (v : List V) (fp : List Addr), RepSs w F B H d s v fp → Reps w H d v
  | [], _, _, _, h => h.1
  | d :: ds, s, _, _, h => by
    obtain ⟨v, r, f1, f2, e1, e2, e3, e4⟩ := h
    exact ⟨v, r, e1, RepS.all e eb d s v f1 e3, RepSs.all e eb ds s r f2 e4⟩
theorem RepSk.all (e : Ex F H) (eb : Ex B H) : ∀ (d : List (Key × D)) (s : Sh) (v : List (Key × V)) (fp : List Addr), RepSk w F B H d s v fp → RepK w H d v
  | [], _, _, _, h => h.1
  | (k, d) :: ds, s, _, _, h => by
    obtain ⟨v, r, f1, f2, e1, e2, e3, e4⟩ := h
    exact ⟨v, r, e1, RepS.all e eb d s v f1 e3, RepSk.all e eb ds s r f2 e4⟩
theorem RepSt.all (e : Ex F H) (eb : Ex B H) : ∀ (d : List (List Key × D)) (s : Sh) (v : List (List Key × V)) (fp : List Addr), RepSt w F B H d s v fp → RepT w H d v
  | [], _, _, _, h => h.1
  | (k, d) :: ds, s, _, _, h => by
    obtain ⟨v, r, f1, f2, e1, e2, e3, e4⟩ := h
    exact ⟨v, r, e1, RepS.all e eb d s v f1 e3, RepSt.all e eb ds s r f2 e4⟩
theorem RepSu.all (e : Ex F H) (eb : Ex B H) : ∀ (d : List D) (s : List Sh) (v : List V) (fp : List Addr), RepSu w F B H d s v fp → Reps w H d v
  | [], [], _, _, h => h.1
  | [], _ :: _, _, _, h => False.elim h
  | _ :: _, [], _, _, h => False.elim h
  | d :: ds, s :: ss, _, _, h => by
    obtain ⟨v, r, f1, f2, e1, e2, e3, e4⟩ := h
    exact ⟨v, r, e1, RepS.all e eb d s v f1 e3, RepSu.all e eb ds ss r f2 e4⟩
theorem RepSf.all (e : Ex F H) (eb : Ex B H) : ∀ (d : List (Nat × D)) (s : List (Nat × Sh)) (v : List (Str × V)) (fp : List Addr), RepSf w F B H d s v fp → RepF w H d v
  | [], [], _, _, h => h.1
  | [], _ :: _, _, _, h => False.elim h
  | _ :: _, [], _, _, h => False.elim h
  | (k, d) :: ds, (g, s) :: ss, _, _, h => by
    obtain ⟨v, r, f1, f2, e0, e1, e2, e3, e4⟩ := h
    exact ⟨v, r, e1, RepS.all e eb d s v f1 e3, RepSf.all e eb ds ss r f2 e4⟩
end
/-- what stands at an address that is held -/
def Held (H : Hp) (a : Addr) : Prop := ∃ o, H a = some o ∧ notTup o
mutual
theorem RepS.held : ∀ (d : D) (s : Sh) (v : V) (fp : List Addr), RepS w F B H d s v fp → ∀ a ∈ fp, Held H a := fun d s v fp h => by
  cases s with
  | frz => rw [(RepS_frz.mp h).2]; intro a ha; cases ha
  | bor => rw [(RepS_bor.mp h).2]; intro a ha; cases ha
  | lst s =>
    cases d with
    | lst ds =>
      obtain ⟨a, vs, fq, e1, e2, e3, e4⟩ := h
      subst e2
      intro b hb
      rcases List.mem_cons.mp hb with rfl | hb
      · exact ⟨_, e3, trivial⟩
      · exact RepSs.held ds s vs fq e4 b hb
    | _ => exact False.elim h
  | dic s =>
    cases d with
    | dic ds =>
      obtain ⟨a, vs, fq, e1, e2, e3, e4⟩ := h
      subst e2
      intro b hb
      rcases List.mem_cons.mp hb with rfl | hb
      · exact ⟨_, e3, trivial⟩
      · exact RepSk.held ds s vs fq e4 b hb
    | dit ds =>
      obtain ⟨a, vs, fq, e1, e2, e3, e4⟩ := h
      subst e2
      intro b hb
      rcases List.mem_cons.mp hb with rfl | hb
      · exact ⟨_, e3, trivial⟩
      · exact RepSt.held ds s vs fq e4 b hb
    | _ => exact False.elim h
  | tup ss =>
    cases d with
    | tup ds =>
      obtain ⟨a, vs, e1, e3, e4⟩ := h
      exact RepSu.held ds ss vs fp e4
    | _ => exact False.elim h
  | obj ss =>
    cases d with
    | obj c ds =>
      obtain ⟨a, dx, vs, fq, e1, e2, e3, e4, e5⟩ := h
      subst e2
      intro b hb
      rcases List.mem_cons.mp hb with rfl | hb
      · exact ⟨_, e3, trivial⟩
      · rcases List.mem_cons.mp hb with rfl | hb
        · exact ⟨_, e4, trivial⟩
        · exact RepSf.held ds ss vs fq e5 b hb
    | _ => exact False.elim h
theorem RepSs.held : ∀ (d : List D) (s : Sh) (v : List V) (fp : List Addr), RepSs w F B H d s v fp → ∀ a ∈ fp, Held H a
  | [], _, _, _, h => by rw [h.2]; intro a ha; cases ha
  | d :: ds, s, _, _, h => by
    obtain ⟨v, r, f1, f2, e1, e2, e3, e4⟩ := h
    subst e2
    intro a ha
    rcases List.mem_append.mp ha with ha | ha
    · exact RepS.held d s v f1 e3 a ha
    · exact RepSs.held ds s r f2 e4 a ha
theorem RepSk.held : ∀ (d : List (Key × D)) (s : Sh) (v : List (Key × V)) (fp : List Addr), RepSk w F B H d s v fp → ∀ a ∈ fp, Held H a
  | [], _, _, _, h => by rw [h.2]; intro a ha; cases ha
  | (k, d) :: ds, s, _, _, h => by
    obtain ⟨v, r, f1, f2, e1, e2, e3, e4⟩ := h
    subst e2
    intro a ha
    rcases List.mem_append.mp ha with ha | ha
    · exact RepS.held d s v f1 e3 a ha
    · exact RepSk.held ds s r f2 e4 a ha
theorem RepSt.held : ∀ (d : List (List Key × D)) (s : Sh) (v : List (List Key × V)) (fp : List Addr), RepSt w F B H d s v fp → ∀ a ∈ fp, Held H a
  | [], _, _, _, h => by rw [h.2]; intro a ha; cases ha
  | (k, d) :: ds, s, _, _, h => by
    obtain ⟨v, r, f1, f2, e1, e2, e3, e4⟩ := h
    subst e2
    intro a ha
    rcases List.mem_append.mp ha with ha | ha
    · exact RepS.held d s v f1 e3 a ha
    · exact RepSt.held ds s r f2 e4 a ha
theorem RepSu.held : ∀ (d : List D) (s : List Sh) (v : List V) (fp : List Addr), RepSu w F B H d s v fp → ∀ a ∈ fp, Held H a
  | [], [], _, _, h => by rw [h.2]; intro a ha; cases ha
  | [], _ :: _, _, _, h => False.elim h
  | _ :: _, [], _, _, h => False.elim h
  | d :: ds, s :: ss, _, _, h => by
    obtain ⟨v, r, f1, f2, e1, e2, e3, e4⟩ := h
    subst e2
    intro a ha
    rcases List.mem_append.mp ha with ha | ha
    · exact RepS.held d s v f1 e3 a ha
    · exact RepSu.held ds ss r f2 e4 a ha
theorem RepSf.held : ∀ (d : List (Nat × D)) (s : List (Nat × Sh)) (v : List (Str × V)) (fp : List Addr), RepSf w F B H d s v fp → ∀ a ∈ fp, Held H a
  | [], [], _, _, h => by rw [h.2]; intro a ha; cases ha
  | [], _ :: _, _, _, h => False.elim h
  | _ :: _, [], _, _, h => False.elim h
  | (k, d) :: ds, (g, s) :: ss, _, _, h => by
    obtain ⟨v, r, f1, f2, e0, e1, e2, e3, e4⟩ := h
    subst e2
    intro a ha
    rcases List.mem_append.mp ha with ha | ha
    · exact RepS.held d s v f1 e3 a ha
    · exact RepSf.held ds ss r f2 e4 a ha
end

/-! ### given up -/
def tupOr (H : Hp) (fp fz : List Addr) : Prop := ∀ a ∈ fz, a ∈ fp ∨ ∃ xs, H a = some (.tup xs)
theorem tupOr.app {fp1 fp2 fz1 fz2 : List Addr} (h1 : tupOr H fp1 fz1) (h2 : tupOr H fp2 fz2) : tupOr H (fp1 ++ fp2) (fz1 ++ fz2) := fun a ha => by
  rcases List.mem_append.mp ha with ha | ha
  · rcases h1 a ha with h | h
    · exact .inl (List.mem_append_left _ h)
    · exact .inr h
  · rcases h2 a ha with h | h
    · exact .inl (List.mem_append_right _ h)
    · exact .inr h
theorem tupOr.cons {fp fz : List Addr} {b : Addr} (h : tupOr H fp fz) : tupOr H (b :: fp) (b :: fz) := fun a ha => by
  rcases List.mem_cons.mp ha with rfl | ha
  · exact .inl List.mem_cons_self
  · rcases h a ha with h | h
    · exact .inl (List.mem_cons_of_mem _ h)
    · exact .inr h
mutual
theorem frzS : ∀ (d : D) (s : Sh) (v : V) (fp : List Addr), noB s = true → RepS w F B H d s v fp →
    ∃ fz, tupOr H fp fz ∧ ∀ F', Ex F F' → (∀ a ∈ fz, F' a = H a) → Rep w F' d v := fun d s v fp hn h => by
  cases s with
  | frz => exact ⟨[], fun a ha => (by cases ha), fun F' e _ => Rep.mono e _ _ (RepS_frz.mp h).1⟩
  | bor => cases hn
  | lst s =>
    cases d with
    | lst ds =>
      obtain ⟨a, vs, fq, e1, e2, e3, e4⟩ := h
      obtain ⟨fz, z1, z2⟩ := frzSs ds s vs fq hn e4
      subst e2
      exact ⟨a :: fz, z1.cons, fun F' e g => ⟨a, vs, e1, ((g a (by simp)).trans e3), z2 F' e fun b hb => g b (by simp [hb])⟩⟩
    | _ => exact False.elim h
  | dic s =>
    cases d with
    | dic ds =>
      obtain ⟨a, vs, fq, e1, e2, e3, e4⟩ := h
      obtain ⟨fz, z1, z2⟩ := frzSk ds s vs fq hn e4
      subst e2
      exact ⟨a :: fz, z1.cons, fun F' e g => ⟨a, vs, e1, ((g a (by simp)).trans e3), z2 F' e fun b hb => g b (by simp [hb])⟩⟩
    | dit ds =>
      obtain ⟨a, vs, fq, e1, e2, e3, e4⟩ := h
      obtain ⟨fz, z1, z2⟩ := frzSt ds s vs fq hn e4
      subst e2
      exact ⟨a :: fz, z1.cons, fun F' e g => ⟨a, vs, e1, ((g a (by simp)).trans e3), z2 F' e fun b hb => g b (by simp [hb])⟩⟩
    | _ => exact False.elim h
  | tup ss =>
    cases d with
    | tup ds =>
      obtain ⟨a, vs, e1, e3, e4⟩ := h
      obtain ⟨fz, z1, z2⟩ := frzSu ds ss vs fp hn e4
      refine ⟨a :: fz, fun b hb => ?_, fun F' e g => ⟨a, vs, e1, ((g a (by simp)).trans e3), z2 F' e fun b hb => g b (by simp [hb])⟩⟩
      rcases List.mem_cons.mp hb with rfl | hb
      · exact .inr ⟨_, e3⟩
      · exact z1 b hb
    | _ => exact False.elim h
  | obj ss =>
    cases d with
    | obj c ds =>
      obtain ⟨a, dx, vs, fq, e1, e2, e3, e4, e5⟩ := h
      obtain ⟨fz, z1, z2⟩ := frzSf ds ss vs fq hn e5
      subst e2
      exact ⟨a :: dx :: fz, z1.cons.cons, fun F' e g => ⟨a, dx, vs, e1, (g a (by simp)).trans e3, (g dx (by simp)).trans e4, z2 F' e fun b hb => g b (by simp [hb])⟩⟩
    | _ => exact False.elim h
theorem frzSs : ∀ (d : List D) (s : Sh) (v : List V) (fp : List Addr), noB s = true → RepSs w F B H d s v fp →
    ∃ fz, tupOr H fp fz ∧ ∀ F', Ex F F' → (∀ a ∈ fz, F' a = H a) → Reps w F' d v
  | [], _, _, _, _, h => ⟨[], fun a ha => (by cases ha), fun _ _ _ => h.1⟩
  | d :: ds, s, _, _, hn, h => by
    obtain ⟨v, r, f1, f2, e1, e2, e3, e4⟩ := h
    obtain ⟨z1, a1, b1⟩ := frzS d s v f1 hn e3
    obtain ⟨z2, a2, b2⟩ := frzSs ds s r f2 hn e4
    subst e2
    exact ⟨z1 ++ z2, a1.app a2, fun F' e g => ⟨v, r, e1, b1 F' e fun a ha => g a (by simp [ha]), b2 F' e fun a ha => g a (by simp [ha])⟩⟩
theorem frzSk : ∀ (d : List (Key × D)) (s : Sh) (v : List (Key × V)) (fp : List Addr), noB s = true → RepSk w F B H d s v fp →
    ∃ fz, tupOr H fp fz ∧ ∀ F', Ex F F' → (∀ a ∈ fz, F' a = H a) → RepK w F' d v
  | [], _, _, _, _, h => ⟨[], fun a ha => (by cases ha), fun _ _ _ => h.1⟩
  | (k, d) :: ds, s, _, _, hn, h => by
    obtain ⟨v, r, f1, f2, e1, e2, e3, e4⟩ := h
    obtain ⟨z1, a1, b1⟩ := frzS d s v f1 hn e3
    obtain ⟨z2, a2, b2⟩ := frzSk ds s r f2 hn e4
    subst e2
    exact ⟨z1 ++ z2, a1.app a2, fun F' e g => ⟨v, r, e1, b1 F' e fun a ha => g a (by simp [ha]), b2 F' e fun a ha => g a (by simp [ha])⟩⟩
theorem frzSt : ∀ (d : List (List Key × D)) (s : Sh) (v : List (List Key × V)) (fp : List Addr), noB s = true → RepSt w F B H d s v fp →
    ∃ fz, tupOr H fp fz ∧ ∀ F', Ex F F' → (∀ a ∈ fz, F' a = H a) → RepT w F' d v
  | [], _, _, _, _, h => ⟨[], fun a ha => (by cases ha), fun _ _ _ => h.1⟩
  | (k, d) :: ds, s, _, _, hn, h => by
    obtain ⟨v, r, f1, f2, e1, e2, e3, e4⟩ := h
    obtain ⟨z1, a1, b1⟩ := frzS d s v f1 hn e3
    obtain ⟨z2, a2, b2⟩ := frzSt ds s r f2 hn e4
    subst e2
    exact ⟨z1 ++ z2, a1.app a2, fun F' e g => ⟨v, r, e1, b1 F' e fun a ha => g a (by simp [ha]), b2 F' e fun a ha => g a (by simp [ha])⟩⟩
theorem frzSu : ∀ (d : List D) (s : List Sh) (v : List V) (fp : List Addr), noBs s = true → RepSu w F B H d s v fp →
    ∃ fz, tupOr H fp fz ∧ ∀ F', Ex F F' → (∀ a ∈ fz, F' a = H a) → Reps w F' d v
  | [], [], _, _, _, h => ⟨[], fun a ha => (by cases ha), fun _ _ _ => h.1⟩
  | [], _ :: _, _, _, _, h => False.elim h
  | _ :: _, [], _, _, _, h => False.elim h
  | d :: ds, s :: ss, _, _, hn, h => by
    obtain ⟨v, r, f1, f2, e1, e2, e3, e4⟩ := h
    obtain ⟨hn1, hn2⟩ := Bool.and_eq_true_iff.mp (show (noB s && noBs ss) = true from hn)
    obtain ⟨z1, a1, b1⟩ := frzS d s v f1 hn1 e3
    obtain ⟨z2, a2, b2⟩ := frzSu ds ss r f2 hn2 e4
    subst e2
    exact ⟨z1 ++ z2, a1.app a2, fun F' e g => ⟨v, r, e1, b1 F' e fun a ha => g a (by simp [ha]), b2 F' e fun a ha => g a (by simp [ha])⟩⟩
theorem frzSf : ∀ (d : List (Nat × D)) (s : List (Nat × Sh)) (v : List (Str × V)) (fp : List Addr), noBf s = true → RepSf w F B H d s v fp →
    ∃ fz, tupOr H fp fz ∧ ∀ F', Ex F F' → (∀ a ∈ fz, F' a = H a) → RepF w F' d v
  | [], [], _, _, _, h => ⟨[], fun a ha => (by cases ha), fun _ _ _ => h.1⟩
  | [], _ :: _, _, _, _, h => False.elim h
  | _ :: _, [], _, _, _, h => False.elim h
  | (f, d) :: ds, (g, s) :: ss, _, _, hn, h => by
    obtain ⟨v, r, f1, f2, e0, e1, e2, e3, e4⟩ := h
    obtain ⟨hn1, hn2⟩ := Bool.and_eq_true_iff.mp (show (noB s && noBf ss) = true from hn)
    obtain ⟨z1, a1, b1⟩ := frzS d s v f1 hn1 e3
    obtain ⟨z2, a2, b2⟩ := frzSf ds ss r f2 hn2 e4
    subst e2
    exact ⟨z1 ++ z2, a1.app a2, fun F' e g => ⟨v, r, e1, b1 F' e fun a ha => g a (by simp [ha]), b2 F' e fun a ha => g a (by simp [ha])⟩⟩
end
/-- what is left (f1), what is frozen (fz) -/
def Cut (H : Hp) (fp f1 fz : List Addr) : Prop := f1.Sublist fp ∧ tupOr H fp fz ∧ ∀ a ∈ f1, fp.Nodup → a ∉ fz
theorem Cut.app {fp1 fp2 g1 g2 z1 z2 : List Addr} (hh : ∀ a ∈ fp1 ++ fp2, Held H a) (c1 : Cut H fp1 g1 z1) (c2 : Cut H fp2 g2 z2) : Cut H (fp1 ++ fp2) (g1 ++ g2) (z1 ++ z2) := by
  refine ⟨c1.1.append c2.1, c1.2.1.app c2.2.1, fun a ha nd hz => ?_⟩
  obtain ⟨n1, n2, n3⟩ := List.nodup_append.mp nd
  have key : ∀ b ∈ fp1 ++ fp2, ¬ ∃ xs, H b = some (.tup xs) := fun b hb ⟨xs, q⟩ => by
    obtain ⟨o, q2, q3⟩ := hh b hb
    rw [q] at q2
    cases q2
    exact q3
  have hin : a ∈ fp1 ++ fp2 := (c1.1.append c2.1).subset ha
  rcases List.mem_append.mp ha with ha | ha <;> rcases List.mem_append.mp hz with hz | hz
  · exact c1.2.2 a ha n1 hz
  · rcases c2.2.1 a hz with h | h
    · exact n3 a (c1.1.subset ha) a h rfl
    · exact key a hin h
  · rcases c1.2.1 a hz with h | h
    · exact n3 a h a (c2.1.subset ha) rfl
    · exact key a hin h
  · exact c2.2.2 a ha n2 hz
theorem Cut.cons {fp g z : List Addr} {b : Addr} (hh : Held H b) (c : Cut H fp g z) : Cut H (b :: fp) (b :: g) z := by
  refine ⟨c.1.cons_cons b, fun a ha => ?_, fun a ha nd hz => ?_⟩
  · rcases c.2.1 a ha with h | h
    · exact .inl (List.mem_cons_of_mem _ h)
    · exact .inr h
  · obtain ⟨n1, n2⟩ := List.nodup_cons.mp nd
    rcases List.mem_cons.mp ha with rfl | ha
    · rcases c.2.1 a hz with h | ⟨xs, q⟩
      · exact n1 h
      · obtain ⟨o, q2, q3⟩ := hh
        rw [q] at q2
        cases q2
        exact q3
    · exact c.2.2 a ha n2 hz
mutual
theorem wkS : ∀ (d : D) (s t : Sh) (v : V) (fp : List Addr), wk s t = true → RepS w F B H d s v fp →
    ∃ f1 fz, Cut H fp f1 fz ∧ ∀ F', Ex F F' → (∀ a ∈ fz, F' a = H a) → RepS w F' B H d t v f1 := fun d s t v fp hw h => by
  have fr : t = .frz → noB s = true → ∃ f1 fz, Cut H fp f1 fz ∧ ∀ F', Ex F F' → (∀ a ∈ fz, F' a = H a) → RepS w F' B H d t v f1 := fun et hn => by
    obtain ⟨fz, z1, z2⟩ := frzS d s v fp hn h
    exact ⟨[], fz, ⟨List.nil_sublist _, z1, fun a ha => by cases ha⟩, fun F' e g => by rw [et]; exact RepS_frz.mpr ⟨z2 F' e g, rfl⟩⟩
  cases s with
  | frz => cases t <;> first | exact fr rfl hw | cases hw
  | bor => cases t <;> first | exact fr rfl hw | cases hw
  | lst s =>
    cases t with
    | frz => exact fr rfl hw
    | lst t =>
      cases d with
      | lst ds =>
        obtain ⟨a, vs, fq, e1, e2, e3, e4⟩ := h
        obtain ⟨f1, fz, c, g⟩ := wkSs ds s t vs fq hw e4
        subst e2
        exact ⟨a :: f1, fz, c.cons ⟨_, e3, trivial⟩, fun F' e q => ⟨a, vs, f1, e1, rfl, e3, g F' e q⟩⟩
      | _ => exact False.elim h
    | _ => cases hw
  | dic s =>
    cases t with
    | frz => exact fr rfl hw
    | dic t =>
      cases d with
      | dic ds =>
        obtain ⟨a, vs, fq, e1, e2, e3, e4⟩ := h
        obtain ⟨f1, fz, c, g⟩ := wkSk ds s t vs fq hw e4
        subst e2
        exact ⟨a :: f1, fz, c.cons ⟨_, e3, trivial⟩, fun F' e q => ⟨a, vs, f1, e1, rfl, e3, g F' e q⟩⟩
      | dit ds =>
        obtain ⟨a, vs, fq, e1, e2, e3, e4⟩ := h
        obtain ⟨f1, fz, c, g⟩ := wkSt ds s t vs fq hw e4
        subst e2
        exact ⟨a :: f1, fz, c.cons ⟨_, e3, trivial⟩, fun F' e q => ⟨a, vs, f1, e1, rfl, e3, g F' e q⟩⟩
      | _ => exact False.elim h
    | _ => cases hw
  | tup ss =>
    cases t with
    | frz => exact fr rfl hw
    | tup ts =>
      cases d with
      | tup ds =>
        obtain ⟨a, vs, e1, e3, e4⟩ := h
        obtain ⟨f1, fz, c, g⟩ := wkSu ds ss ts vs fp hw e4
        exact ⟨f1, fz, c, fun F' e q => ⟨a, vs, e1, e3, g F' e q⟩⟩
      | _ => exact False.elim h
    | _ => cases hw
  | obj ss => cases t <;> first | exact fr rfl hw | cases hw
theorem wkSs : ∀ (d : List D) (s t : Sh) (v : List V) (fp : List Addr), wk s t = true → RepSs w F B H d s v fp →
    ∃ f1 fz, Cut H fp f1 fz ∧ ∀ F', Ex F F' → (∀ a ∈ fz, F' a = H a) → RepSs w F' B H d t v f1
  | [], _, _, _, _, _, h => ⟨[], [], by rw [h.2]; exact ⟨List.nil_sublist _, fun a ha => (by cases ha), fun a ha => by cases ha⟩, fun _ _ _ => ⟨h.1, rfl⟩⟩
  | d :: ds, s, t, _, _, hw, h => by
    have hh := RepSs.held _ _ _ _ h
    obtain ⟨v, r, f1, f2, e1, e2, e3, e4⟩ := h
    subst e2
    obtain ⟨g1, z1, c1, b1⟩ := wkS d s t v f1 hw e3
    obtain ⟨g2, z2, c2, b2⟩ := wkSs ds s t r f2 hw e4
    exact ⟨g1 ++ g2, z1 ++ z2, c1.app hh c2, fun F' e g => ⟨v, r, g1, g2, e1, rfl, b1 F' e fun a ha => g a (by simp [ha]), b2 F' e fun a ha => g a (by simp [ha])⟩⟩
theorem wkSk : ∀ (d : List (Key × D)) (s t : Sh) (v : List (Key × V)) (fp : List Addr), wk s t = true → RepSk w F B H d s v fp →
    ∃ f1 fz, Cut H fp f1 fz ∧ ∀ F', Ex F F' → (∀ a ∈ fz, F' a = H a) → RepSk w F' B H d t v f1
  | [], _, _, _, _, _, h => ⟨[], [], by rw [h.2]; exact ⟨List.nil_sublist _, fun a ha => (by cases ha), fun a ha => by cases ha⟩, fun _ _ _ => ⟨h.1, rfl⟩⟩
  | (k, d) :: ds, s, t, _, _, hw, h => by
    have hh := RepSk.held _ _ _ _ h
    obtain ⟨v, r, f1, f2, e1, e2, e3, e4⟩ := h
    subst e2
    obtain ⟨g1, z1, c1, b1⟩ := wkS d s t v f1 hw e3
    obtain ⟨g2, z2, c2, b2⟩ := wkSk ds s t r f2 hw e4
    exact ⟨g1 ++ g2, z1 ++ z2, c1.app hh c2, fun F' e g => ⟨v, r, g1, g2, e1, rfl, b1 F' e fun a ha => g a (by simp [ha]), b2 F' e fun a ha => g a (by simp [ha])⟩⟩
theorem wkSt : ∀ (d : List (List Key × D)) (s t : Sh) (v : List (List Key × V)) (fp : List Addr), wk s t = true → RepSt w F B H d s v fp →
    ∃ f1 fz, Cut H fp f1 fz ∧ ∀ F', Ex F F' → (∀ a ∈ fz, F' a = H a) → RepSt w F' B H d t v f1
  | [], _, _, _, _, _, h => ⟨[], [], by rw [h.2]; exact ⟨List.nil_sublist _, fun a ha => (by cases ha), fun a ha => by cases ha⟩, fun _ _ _ => ⟨h.1, rfl⟩⟩
  | (k, d) :: ds, s, t, _, _, hw, h => by
    have hh := RepSt.held _ _ _ _ h
    obtain ⟨v, r, f1, f2, e1, e2, e3, e4⟩ := h
    subst e2
    obtain ⟨g1, z1, c1, b1⟩ := wkS d s t v f1 hw e3
    obtain ⟨g2, z2, c2, b2⟩ := wkSt ds s t r f2 hw e4
    exact ⟨g1 ++ g2, z1 ++ z2, c1.app hh c2, fun F' e g => ⟨v, r, g1, g2, e1, rfl, b1 F' e fun a ha => g a (by simp [ha]), b2 F' e fun a ha => g a (by simp [ha])⟩⟩
theorem wkSu : ∀ (d : List D) (s t : List Sh) (v : List V) (fp : List Addr), wks s t = true → RepSu w F B H d s v fp →
    ∃ f1 fz, Cut H fp f1 fz ∧ ∀ F', Ex F F' → (∀ a ∈ fz, F' a = H a) → RepSu w F' B H d t v f1
  | [], [], [], _, _, _, h => ⟨[], [], by rw [h.2]; exact ⟨List.nil_sublist _, fun a ha => (by cases ha), fun a ha => by cases ha⟩, fun _ _ _ => ⟨h.1, rfl⟩⟩
  | [], [], _ :: _, _, _, hw, _ => by cases hw
  | [], _ :: _, _, _, _, _, h => False.elim h
  | _ :: _, [], _, _, _, _, h => False.elim h
  | _ :: _, _ :: _, [], _, _, hw, _ => by cases hw
  | d :: ds, s :: ss, t :: ts, _, _, hw, h => by
    have hh := RepSu.held _ _ _ _ h
    obtain ⟨v, r, f1, f2, e1, e2, e3, e4⟩ := h
    subst e2
    obtain ⟨hw1, hw2⟩ := Bool.and_eq_true_iff.mp (show (wk s t && wks ss ts) = true from hw)
    obtain ⟨g1, z1, c1, b1⟩ := wkS d s t v f1 hw1 e3
    obtain ⟨g2, z2, c2, b2⟩ := wkSu ds ss ts r f2 hw2 e4
    exact ⟨g1 ++ g2, z1 ++ z2, c1.app hh c2, fun F' e g => ⟨v, r, g1, g2, e1, rfl, b1 F' e fun a ha => g a (by simp [ha]), b2 F' e fun a ha => g a (by simp [ha])⟩⟩
end
end DI
/-! DI3: states, steps. -/
namespace DI
open PySem L2
variable {w : Wd} {F F' F1 F2 B B' H H' H1 H2 : Hp} {σ : L2.St} {env : Env} {fps fps' fps1 fps2 : Nat → List Addr}
/-- the frame's names hold env -/
structure Sta (w : Wd) (F B H : Hp) (σ : L2.St) (env : Env) (fps : Nat → List Addr) : Prop where
  fh : Ex F H
  bh : Ex B H
  ln : env.length = σ.length
  sl : ∀ i s d, env[i]? = some (some (s, d)) → ∃ v, σ[i]? = some (some v) ∧ RepS w F B H d s v (fps i)
  nf : ∀ i, ∀ a ∈ fps i, F a = none ∧ B a = none
  hd : ∀ i, ∀ a ∈ fps i, Held H a
  nd : ∀ i, (fps i).Nodup
  sp : ∀ i j a, a ∈ fps i → a ∈ fps j → i = j
  io : ∀ i v, (i, v) ∈ w.io → σ[i]? = some (some v)
/-- what may have happened -/
structure Stp (ef : List Nat) (F H : Hp) (fps : Nat → List Addr) (F' H' : Hp) (fps' : Nat → List Addr) : Prop where
  ff : Ex F F'
  fh : Ex F' H'
  fn : ∀ a o, F' a = some o → F a = some o ∨ H a = none ∨ (∃ i ∈ ef, a ∈ fps i) ∨ ∃ xs, o = .tup xs
  fr : ∀ a o, H a = some o → (∀ i ∈ ef, a ∉ fps i) → H' a = some o
  al : ∀ a, H a ≠ none → H' a ≠ none
  sm : ∀ i, i ∉ ef → fps' i = fps i
  nw : ∀ i ∈ ef, ∀ a ∈ fps' i, H a = none ∨ ∃ j ∈ ef, a ∈ fps j
theorem Stp.refl {ef : List Nat} (e : Ex F H) : Stp ef F H fps F H fps :=
  ⟨ex_refl F, e, fun _ _ h => .inl h, fun _ _ h _ => h, fun _ h => h, fun _ _ => rfl, fun i hi a ha => .inr ⟨i, hi, ha⟩⟩
theorem Stp.weak {ef eg : List Nat} (h : Stp ef F H fps F' H' fps') (hs : ∀ i ∈ ef, i ∈ eg) : Stp eg F H fps F' H' fps' := by
  refine ⟨h.ff, h.fh, fun a o e => ?_, fun a o e n => h.fr a o e fun i hi => n i (hs i hi), h.al, fun i hi => h.sm i fun q => hi (hs i q), fun i hi a ha => ?_⟩
  · rcases h.fn a o e with q | q | ⟨i, hi, q⟩ | q
    · exact .inl q
    · exact .inr (.inl q)
    · exact .inr (.inr (.inl ⟨i, hs i hi, q⟩))
    · exact .inr (.inr (.inr q))
  · by_cases hie : i ∈ ef
    · rcases h.nw i hie a ha with q | ⟨j, hj, q⟩
      · exact .inl q
      · exact .inr ⟨j, hs j hj, q⟩
    · rw [h.sm i hie] at ha
      exact .inr ⟨i, hi, ha⟩
theorem Stp.trans {ef : List Nat} (h1 : Stp ef F H fps F1 H1 fps1) (h2 : Stp ef F1 H1 fps1 F2 H2 fps2) : Stp ef F H fps F2 H2 fps2 := by
  have back : ∀ a, H1 a = none → H a = none := fun a e => by
    cases q : H a with
    | none => rfl
    | some o => exact absurd e (h1.al a (by rw [q]; exact fun z => by cases z))
  have bk : ∀ j ∈ ef, ∀ a ∈ fps1 j, H a = none ∨ ∃ j ∈ ef, a ∈ fps j := fun j hj a ha => h1.nw j hj a ha
  refine ⟨ex_trans h1.ff h2.ff, h2.fh, fun a o e => ?_, fun a o e n => ?_, fun a e => h2.al a (h1.al a e), fun i hi => (h2.sm i hi).trans (h1.sm i hi), fun i hi a ha => ?_⟩
  · rcases h2.fn a o e with q | q | ⟨i, hi, q⟩ | q
    · exact h1.fn a o q
    · exact .inr (.inl (back a q))
    · rcases bk i hi a q with z | z
      · exact .inr (.inl z)
      · exact .inr (.inr (.inl z))
    · exact .inr (.inr (.inr q))
  · have e1 := h1.fr a o e n
    refine h2.fr a o e1 fun i hi hm => ?_
    rcases bk i hi a hm with z | ⟨j, hj, z⟩
    · rw [z] at e
      cases e
    · exact n j hj z
  · rcases h2.nw i hi a ha with q | ⟨j, hj, q⟩
    · exact .inl (back a q)
    · exact bk j hj a q
theorem Stp.tup {ef : List Nat} (h : Stp ef F H fps F' H' fps') (S : Sta w F B H σ env fps) : ∀ a xs, H a = some (.tup xs) → H' a = some (.tup xs) := fun a xs e => by
  refine h.fr a _ e fun i _ hm => ?_
  obtain ⟨o, q1, q2⟩ := S.hd i a hm
  rw [e] at q1
  cases q1
  exact q2
/-- an own thing that the step does not touch -/
theorem Stp.keep {ef : List Nat} {d : D} {s : Sh} {v : V} {fp : List Addr} (h : Stp ef F H fps F' H' fps') (S : Sta w F B H σ env fps) (hn : ∀ a ∈ fp, ∀ i ∈ ef, a ∉ fps i) (r : RepS w F B H d s v fp) :
    RepS w F' B H' d s v fp := RepS.mono h.ff (ex_refl B) (h.tup S) d s v fp (fun a o ha e => h.fr a o e (hn a ha)) r
/-- a thing of one's own: beside the names -/
structure Kp (F B H : Hp) (fps : Nat → List Addr) (fp : List Addr) : Prop where
  nd : fp.Nodup
  nf : ∀ a ∈ fp, F a = none ∧ B a = none
  hd : ∀ a ∈ fp, Held H a
  ds : ∀ a ∈ fp, ∀ i, a ∉ fps i
theorem Kp.nil : Kp F B H fps [] := ⟨List.nodup_nil, fun _ h => (by cases h), fun _ h => (by cases h), fun _ h => (by cases h)⟩
/-- it stays so -/
theorem Kp.step {ef : List Nat} {fp : List Addr} (k : Kp F B H fps fp) (h : Stp ef F H fps F' H' fps') : Kp F' B H' fps' fp := by
  have nn : ∀ a ∈ fp, H a ≠ none := fun a ha => by
    obtain ⟨o, e, _⟩ := k.hd a ha
    rw [e]
    exact fun z => by cases z
  refine ⟨k.nd, fun a ha => ⟨?_, (k.nf a ha).2⟩, fun a ha => ?_, fun a ha i hi => ?_⟩
  · cases q : F' a with
    | none => rfl
    | some o =>
      rcases h.fn a o q with z | z | ⟨i, _, z⟩ | ⟨xs, z⟩
      · rw [(k.nf a ha).1] at z
        cases z
      · exact absurd z (nn a ha)
      · exact absurd z (k.ds a ha i)
      · obtain ⟨o', e1, e2⟩ := k.hd a ha
        subst z
        have := h.fr a o' e1 (fun i _ => k.ds a ha i)
        have e3 := h.fh a _ q
        rw [this] at e3
        cases e3
        exact e2.elim
  · obtain ⟨o, e, n⟩ := k.hd a ha
    exact ⟨o, h.fr a o e fun i _ => k.ds a ha i, n⟩
  · by_cases hie : i ∈ ef
    · rcases h.nw i hie a hi with z | ⟨j, _, z⟩
      · exact nn a ha z
      · exact k.ds a ha j z
    · rw [h.sm i hie] at hi
      exact k.ds a ha i hi

/-! ### values -/
/-- the value v of what was reckoned: held by the root's name (a place), or one's own -/
def Val (w : Wd) (rt : Option Nat) (F B H : Hp) (fps : Nat → List Addr) (d : D) (s : Sh) (v : V) : Prop :=
  ∃ fp, RepS w F B H d s v fp ∧ match rt with
    | some i => ∀ a ∈ fp, a ∈ fps i
    | none => Kp F B H fps fp
theorem Rep.scalar {d : D} {v : V} (hs : d.scal = true) (h : Rep w F d v) : Rep w F' d v := by
  cases d <;> first | exact h | cases hs
theorem RepS.scalar {d : D} {s : Sh} {v : V} {fp : List Addr} (hs : d.scal = true) (h : RepS w F B H d s v fp) : Rep w F' d v := by
  cases s with
  | frz => exact Rep.scalar hs (RepS_frz.mp h).1
  | bor => exact Rep.scalar hs (RepS_bor.mp h).1
  | lst s => obtain ⟨ds, rfl⟩ := RepS_lst h; cases hs
  | dic s => rcases RepS_dic h with ⟨ds, rfl⟩ | ⟨ds, rfl⟩ <;> cases hs
  | tup s => obtain ⟨ds, rfl⟩ := RepS_tup h; cases hs
  | obj s => obtain ⟨c, ds, rfl⟩ := RepS_obj h; cases hs
theorem share_ok {s t : Sh} {d e : D} {v : V} {fp : List Addr} (hs : share (s, d) = some (t, e)) (h : RepS w F B H d s v fp) : e = d ∧ RepS w F B H d t v [] ∧ (t = .frz ∨ t = .bor) := by
  cases s with
  | frz =>
    cases hs
    exact ⟨rfl, RepS_frz.mpr ⟨(RepS_frz.mp h).1, rfl⟩, .inl rfl⟩
  | bor =>
    have hs' : some ((if d.scal then Sh.frz else Sh.bor), d) = some (t, e) := hs
    by_cases q : d.scal = true
    · rw [if_pos q] at hs'
      cases hs'
      exact ⟨rfl, RepS_frz.mpr ⟨RepS.scalar q h, rfl⟩, .inl rfl⟩
    · rw [if_neg q] at hs'
      cases hs'
      exact ⟨rfl, RepS_bor.mpr ⟨(RepS_bor.mp h).1, rfl⟩, .inr rfl⟩
  | _ =>
    have hs' : (if d.scal = true then some (Sh.frz, d) else none) = some (t, e) := hs
    by_cases q : d.scal = true
    · rw [if_pos q] at hs'
      cases hs'
      exact ⟨rfl, RepS_frz.mpr ⟨RepS.scalar q h, rfl⟩, .inl rfl⟩
    · rw [if_neg q] at hs'
      cases hs'
/-- F with the things at fz as they stand -/
def grow (F H : Hp) (fz : List Addr) : Hp := fun a => if a ∈ fz then H a else F a
theorem grow_ex (e : Ex F H) (fz : List Addr) : Ex F (grow F H fz) := fun a o h => by
  unfold grow
  split
  · exact e a o h
  · exact h
theorem grow_in (e : Ex F H) (fz : List Addr) : Ex (grow F H fz) H := fun a o h => by
  unfold grow at h
  split at h
  · exact h
  · exact e a o h
theorem grow_at {fz : List Addr} {a : Addr} (h : a ∈ fz) : grow F H fz a = H a := if_pos h
theorem grow_not {fz : List Addr} {a : Addr} (h : a ∉ fz) : grow F H fz a = F a := if_neg h
theorem held_not {a : Addr} (h : Held H a) : ¬ ∃ xs, H a = some (.tup xs) := fun ⟨xs, q⟩ => by
  obtain ⟨o, q1, q2⟩ := h
  rw [q] at q1
  cases q1
  exact q2
/-- a thing of one's own is given up in part -/
theorem Kp.cut {fp f1 fz : List Addr} (k : Kp F B H fps fp) (c : Cut H fp f1 fz) : Kp (grow F H fz) B H fps f1 := by
  refine ⟨k.nd.sublist c.1, fun a ha => ⟨?_, (k.nf a (c.1.subset ha)).2⟩, fun a ha => k.hd a (c.1.subset ha), fun a ha => k.ds a (c.1.subset ha)⟩
  rw [grow_not (c.2.2 a ha k.nd)]
  exact (k.nf a (c.1.subset ha)).1
/-- the names do not mind -/
theorem Sta.cut {fp fz : List Addr} (S : Sta w F B H σ env fps) (z : tupOr H fp fz) (hd : ∀ a ∈ fp, ∀ i, a ∉ fps i) : Sta w (grow F H fz) B H σ env fps := by
  refine ⟨grow_in S.fh fz, S.bh, S.ln, fun i s d e => ?_, fun i a ha => ⟨?_, (S.nf i a ha).2⟩, S.hd, S.nd, S.sp, S.io⟩
  · obtain ⟨v, e1, r⟩ := S.sl i s d e
    exact ⟨v, e1, RepS.mono (grow_ex S.fh fz) (ex_refl B) (fun _ _ q => q) d s v _ (fun _ _ _ q => q) r⟩
  · have hn : a ∉ fz := fun hz => by
      rcases z a hz with q | q
      · exact hd a q i ha
      · exact held_not (S.hd i a ha) q
    rw [grow_not hn]
    exact (S.nf i a ha).1
theorem Stp.cut {ef : List Nat} {fp fz : List Addr} (h : Stp ef F H fps F' H' fps') (z : tupOr H' fp fz) (hf : ∀ a ∈ fp, H a = none ∨ ∃ j ∈ ef, a ∈ fps j) : Stp ef F H fps (grow F' H' fz) H' fps' := by
  refine ⟨ex_trans h.ff (grow_ex h.fh fz), grow_in h.fh fz, fun a o e => ?_, h.fr, h.al, h.sm, h.nw⟩
  by_cases hz : a ∈ fz
  · rw [grow_at hz] at e
    rcases z a hz with q | ⟨xs, q⟩
    · rcases hf a q with q | q
      · exact .inr (.inl q)
      · exact .inr (.inr (.inl q))
    · rw [q] at e
      cases e
      exact .inr (.inr (.inr ⟨xs, rfl⟩))
  · rw [grow_not hz] at e
    exact h.fn a o e
end DI
/-! DI4: what the core may touch, when it is sound, and which syntax it stands for. -/
namespace DI
open PySem L2
/-! ### what is touched -/
section
variable (sg : Sig)
def ioIn : Md → Bool
  | .io => true
  | _ => false
mutual
def effE : E → List Nat
  | .pl _ => [] | .mv i => [i] | .fz i => [i] | .cst _ => [] | .glo _ _ => []
  | .app _ as => effEs as
  | .chn _ _ a b c => effE a ++ (effE b ++ effE c)
  | .bm _ a as => effE a ++ effEs as
  | .sl2 a b c => effE a ++ (effE b ++ effE c)
  | .tup as => effEs as
  | .lst _ as => effEs as
  | .newd _ _ => []
  | .and a b => effE a ++ effE b
  | .or a b => effE a ++ effE b
  | .not a => effE a
  | .ite c a b => effE c ++ (effE a ++ effE b)
  | .attr e _ => effE e
  | .mut _ p as => p.root :: effEs as
  | .call f as => effC (sg.modes f) as
  | .mcall _ f o as => match sg.modes f with
    | [] => []
    | _ :: ms => effE o ++ effC ms as
  | .wall => []
  | .fzt a => effE a
  | .orv a b => effE a ++ effE b
  | .new c as => effC ((sg.modes (sg.init c)).drop 1) as
  | .lc own _ it ifs elt _ => effI it ++ ((effEs ifs ++ effE elt).filter fun i => !own.contains i)
  | .dc own _ it ifs k v _ _ => effI it ++ ((effEs ifs ++ (effE k ++ effE v)).filter fun i => !own.contains i)
  | .sc own _ it ifs elt => effI it ++ ((effEs ifs ++ effE elt).filter fun i => !own.contains i)
def effEs : Es → List Nat
  | .nil => []
  | .cons e es => effE e ++ effEs es
def effC : List Md → Es → List Nat
  | _, .nil => []
  | [], .cons _ _ => []
  | m :: ms, .cons e es => (match m with
    | .io => (match e with | .pl p => [p.root] | _ => [])
    | _ => effE e) ++ effC ms es
def effI : It → List Nat
  | .e x => effE x
  | .rng as => effEs as
  | .enum x => effE x
  | .zip x y => effE x ++ effE y
  | .dict x => effE x
end
def E.root : E → Option Nat
  | .pl p => some p.root
  | _ => none
def out (o : Option Nat) (l : List Nat) : Bool := match o with
  | some i => !l.contains i
  | none => true
def It.roots : It → List Nat
  | .e x => x.root.toList
  | .rng _ => []
  | .enum x => x.root.toList
  | .zip x y => x.root.toList ++ y.root.toList
  | .dict x => x.root.toList
/-- the names that are lent or given to be changed in a call, apart -/
def ioRoots : List Md → Es → List Nat
  | .io :: ms, .cons (.pl p) es => p.root :: ioRoots ms es
  | _ :: ms, .cons _ es => ioRoots ms es
  | _, _ => []
mutual
def wfE : E → Bool
  | .pl _ => true | .mv _ => true | .fz _ => true
  | .cst d => d.scal
  | .glo _ d => d.scal
  | .app _ as => wfEs true as
  | .bm _ a as => wfE a && (wfEs true as && out a.root (effEs sg as))
  | .sl2 a b c => wfE a && (wfE b && (wfE c && (out a.root (effE sg b ++ effE sg c) && out b.root (effE sg c))))
  | .chn _ _ a b c => wfE a && (wfE b && (wfE c && (out a.root (effE sg b) && out b.root (effE sg c))))
  | .tup as => wfEs false as
  | .lst _ as => wfEs false as
  | .newd _ _ => true
  | .and a b => wfE a && wfE b
  | .or a b => wfE a && wfE b
  | .not a => wfE a
  | .ite c a b => wfE c && (wfE a && wfE b)
  | .attr e _ => wfE e && !e.place
  | .mut _ p as => wfEs false as && !(effEs sg as).contains p.root
  | .call f as => wfC (ioRoots (sg.modes f) as) (sg.modes f) as
  | .mcall _ f o as => match sg.modes f with
    | [] => false
    | _ :: ms => wfE o && (out o.root (effC sg ms as) && (out o.root (ioRoots ms as) && wfC (ioRoots ms as) ms as))
  | .wall => true
  | .fzt a => wfE a
  | .orv a b => wfE a && wfE b
  | .new c as => wfC (ioRoots ((sg.modes (sg.init c)).drop 1) as) ((sg.modes (sg.init c)).drop 1) as
  | .lc own _ it ifs elt _ => wfI it && wfEs false ifs && wfE elt && it.roots.all (fun i => !own.contains i && !(effEs sg ifs ++ effE sg elt).contains i)
  | .dc own _ it ifs k v _ _ => wfI it && wfEs false ifs && wfE k && wfE v && it.roots.all (fun i => !own.contains i && !(effEs sg ifs ++ (effE sg k ++ effE sg v)).contains i)
  | .sc own _ it ifs elt => wfI it && wfEs false ifs && wfE elt && it.roots.all (fun i => !own.contains i && !(effEs sg ifs ++ effE sg elt).contains i)
def wfEs (b : Bool) : Es → Bool
  | .nil => true
  | .cons e es => wfE e && (!b || out e.root (effEs sg es)) && wfEs b es
def wfC (ios : List Nat) : List Md → Es → Bool
  | _, .nil => true
  | [], .cons _ _ => false
  | m :: ms, .cons e es => (match m with
    | .io => (match e with
      | .pl p => !(ioRoots ms es).contains p.root
      | _ => false)
    | _ => wfE e && (out e.root (effC sg ms es) && out e.root ios)) && wfC ios ms es
def wfI : It → Bool
  | .e x => wfE x
  | .rng as => wfEs true as
  | .enum x => wfE x
  | .zip x y => wfE x && wfE y && out x.root (effE sg y)
  | .dict x => wfE x
end
def Tg.slots : Tg → List Nat
  | .nm i => [i]
  | .tup ts => slotsT ts
where slotsT : Tgs → List Nat
  | .nil => []
  | .cons t ts => t.slots ++ slotsT ts
mutual
def effS : S → List Nat
  | .asg tg e => effE sg e ++ tg.slots
  | .par ts es => effEs sg es ++ Tg.slots.slotsT ts
  | .seti p k e => effE sg e ++ (p.root :: effE sg k)
  | .seta p _ e => effE sg e ++ [p.root]
  | .augv i _ e => i :: effE sg e
  | .augi p k _ e => p.root :: (effE sg k ++ effE sg e)
  | .ife c a b => effE sg c ++ (effSs a ++ effSs b)
  | .for tg it body => effI sg it ++ (tg.slots ++ effSs body)
  | .whl c body => effE sg c ++ effSs body
  | .ret e => effE sg e
  | .ret0 => []
  | .exp e => effE sg e
  | .pass => [] | .brk => [] | .cnt => []
  | .rais _ as => effEs sg as
  | .tryx body _ nm suite => effSs body ++ (nm.toList ++ effSs suite)
  | .wall => []
def effSs : Ss → List Nat
  | .nil => []
  | .cons s ss => effS s ++ effSs ss
end
mutual
def wfS : S → Bool
  | .asg _ e => wfE sg e
  | .par _ es => wfEs sg false es
  | .seti p k e => wfE sg e && wfE sg k && !(effE sg k).contains p.root
  | .seta _ _ e => wfE sg e
  | .augv _ _ e => wfE sg e
  | .augi p k _ e => wfE sg k && wfE sg e && !(effE sg k ++ effE sg e).contains p.root
  | .ife c a b => wfE sg c && (wfSs a && wfSs b)
  | .for tg it body => wfI sg it && wfSs body && it.roots.all (fun i => !(tg.slots ++ effSs sg body).contains i)
  | .whl c body => wfE sg c && wfSs body
  | .ret e => wfE sg e
  | .ret0 => true
  | .exp e => wfE sg e
  | .pass => true | .brk => true | .cnt => true
  | .rais _ as => wfEs sg false as
  | .tryx body _ _ suite => wfSs body && wfSs suite
  | .wall => true
def wfSs : Ss → Bool
  | .nil => true
  | .cons s ss => wfS s && wfSs ss
end
end
/-! ### the syntax -/
structure Gam where
  N : List Str
  sc : Scope
  /-- a def's name, a method's name; a class's name; a field's name -/
  defs : Nat → Str
  cls : Nat → Str
  fn : Nat → Str
  /-- the module's constants -/
  con : Str → Option D
  /-- names that may be stored -/
  st : Str → Bool
  /-- nothing is being shown -/
  gd : Bool
  /-- slots that are never stored -/
  io : List Nat
  /-- what may be called -/
  fk : Nat → Bool
  mm : Nat → Nat → Bool
  nk : Nat → Bool
def eqSc : D → D → Bool
  | .non, .non => true
  | .bl b, .bl c => b == c
  | .int i, .int j => decide (i = j)
  | .str s, .str t => decide (s = t)
  | _, _ => false
theorem eqSc_ok {d e : D} (h : eqSc d e = true) : d = e := by
  cases d <;> cases e <;> first | rfl | cases h | skip
  · exact congrArg _ (eq_of_beq h)
  · exact congrArg _ (of_decide_eq_true h)
  · exact congrArg _ (of_decide_eq_true h)
def okName (x : Str) : Bool := !(x == ("__debug__" : Str)) && !(x == ("__classdict__" : Str)) && !(x == ("__name__" : Str))
def Gam.slot (g : Gam) (i : Nat) (x : Str) : Bool := decide (g.N[i]? = some x) && okName x && (match g.sc.names.lookup x with | some .local => true | some .cell => true | some .free => true | _ => false)
def Gam.loc (g : Gam) (i : Nat) (x : Str) : Bool := decide (g.N[i]? = some x) && okName x && (g.st x && !g.io.contains i) && (match g.sc.names.lookup x with | some .local => true | some .cell => true | _ => false)
def Gam.glo (g : Gam) (x y : Str) : Bool := decide (x = y) && okName x && (match g.sc.names.lookup x with | some .globalImplicit => true | _ => false)
def opBin : Op → Option Operator
  | .add => some .Add | .sub => some .Sub | .mul => some .Mult | .fdiv => some .FloorDiv | .mod => some .Mod | .pow => some .Pow | .shl => some .LShift | .shr => some .RShift | .band => some .BitAnd | .bor => some .BitOr
  | _ => none
def opCmp : Op → Option CmpOp
  | .eq => some .Eq | .ne => some .NotEq | .lt => some .Lt | .le => some .LtE | .gt => some .Gt | .ge => some .GtE | .isIn => some .In | .notIn => some .NotIn
  | _ => none
def opFn : Op → Nat → Option Str
  | .len, 1 => some "len" | .abs, 1 => some "abs" | .min2, 2 => some "min" | .max2, 2 => some "max" | .int, 1 => some "int" | .str, 1 => some "str" | .repr, 1 => some "repr" | .list, 1 => some "list" | .tuple, 1 => some "tuple"
  | .sorted, 1 => some "sorted" | .sum, 1 => some "sum" | .all, 1 => some "all" | .any, 1 => some "any" | .dict, 1 => some "dict"
  | _, _ => none
def opMt : Op → Nat → Option Str
  | .join, 2 => some "join" | .split, 2 => some "split" | .index, 2 => some "index"
  | _, _ => none
def muMt : Mu → Nat → Option Str
  | .append, 1 => some "append" | .insert, 2 => some "insert" | .extend, 1 => some "extend" | .pop, 0 => some "pop" | .popAt, 1 => some "pop" | .remove, 1 => some "remove" | .reverse, 0 => some "reverse" | .clear, 0 => some "clear"
  | _, _ => none
def tyName : Nat → Option Str
  | 0 => some "int" | 1 => some "bool" | 2 => some "str" | 3 => some "list" | 4 => some "tuple" | 5 => some "dict"
  | _ => none
def Es.length : Es → Nat
  | .nil => 0
  | .cons _ es => es.length + 1
def matchC : D → Const → Bool
  | .non, .none => true
  | .bl b, .bool c => b == c
  | .int i, .int j => decide (i = j)
  | .str s, .str t => decide (s = t)
  | _, _ => false
/-- no super() -/
def baseOk : Expr → Bool
  | .Call (.Name id _) [] [] _ => !(id == ("super" : Str))
  | _ => true
def notStar : Expr → Bool
  | .Starred .. => false
  | _ => true
def plainT : Expr → Bool
  | .UnaryOp .Not _ _ => false
  | .BoolOp .. => false
  | .IfExp .. => false
  | .Compare .. => false
  | _ => true
def noSlice : Expr → Bool
  | .Slice .. => false
  | _ => true
section
variable (g : Gam)
def matchIx : PIx → Expr → Bool
  | .cst d, .Constant c _ _ => matchC d c
  | .cst (.int i), .UnaryOp .USub (.Constant (.int j) _ _) _ => decide (i = -j)
  | .var i, .Name x _ => g.slot i x
  | _, _ => false
def matchPl : Pl → Expr → Bool
  | .var i, .Name x _ => g.slot i x
  | .attr p f, .Attribute e a _ => decide (a = g.fn f) && matchPl p e
  | .ix p k, .Subscript e j _ => matchPl p e && matchIx g k j
  | _, _ => false
def matchTg : Tg → Expr → Bool
  | .nm i, .Name x _ => g.loc i x
  | .tup ts, .Tuple es _ _ => matchTgs ts es
  | _, _ => false
where matchTgs : Tgs → List Expr → Bool
  | .nil, [] => true
  | .cons t ts, e :: es => matchTg t e && matchTgs ts es
  | _, _ => false
end
/-- within a comprehension -/
def Gam.blk (g : Gam) (scope : Scope) : Gam := { g with sc := relS scope g.sc, st := fun x => match scope.names.lookup x with | some .local => true | some .cell => true | _ => false }
def ownOf (g : Gam) (own : List Nat) : List (Str × Nat) := own.map fun i => ((g.N[i]?).getD Str.empty, i)
def opAug : Op → Option Operator
  | .add => some .Add | .sub => some .Sub | .fdiv => some .FloorDiv | .shr => some .RShift | .band => some .BitAnd | .bor => some .BitOr
  | _ => none
def muOk (m : Mu) : Bool := match m with
  | .popAt => false
  | _ => contOk m (.lst [])
def isTup : Expr → Bool
  | .Tuple .. => true
  | _ => false
/-- pairs go to pairs -/
def itTg : It → Expr → Bool
  | .enum _, t => isTup t
  | .zip _ _, t => isTup t
  | .dict _, _ => false
  | .rng as, _ => as.length == 1 || as.length == 2
  | _, _ => true
mutual
def matchE (g : Gam) : E → Expr → Bool
  | .pl p, e => matchPl g p e
  | .mv i, .Name x _ => g.slot i x
  | .fz i, .Name x _ => g.slot i x
  | .cst d, .Constant c _ _ => matchC d c
  | .glo x d, .Name y _ => g.glo x y && (match g.con x with | some e => eqSc d e | none => false)
  | .app o (.cons a (.cons b .nil)), .BinOp l p r _ => decide (opBin o = some p) && matchE g a l && matchE g b r
  | .app o (.cons a (.cons b .nil)), .Compare l [p] [r] _ => decide (opCmp o = some p) && matchE g a l && matchE g b r && !behindInMarks p r
  | .chn o p a b c, .Compare l [q, r] [m, n] _ => decide (opCmp o = some q) && decide (opCmp p = some r) && matchE g a l && matchE g b m && matchE g c n && !lastMarks [q, r] [m, n]
  | .app .isN (.cons a .nil), .Compare l [.Is] [.Constant .none _ _] _ => matchE g a l
  | .app .notN (.cons a .nil), .Compare l [.IsNot] [.Constant .none _ _] _ => matchE g a l
  | .app .neg (.cons a .nil), .UnaryOp .USub l _ => matchE g a l
  | .app .ix (.cons a (.cons b .nil)), .Subscript l r _ => noSlice r && matchE g a l && matchE g b r
  | .app (.sl false false) (.cons a .nil), .Subscript l (.Slice none none none _) _ => matchE g a l
  | .app (.sl true false) (.cons a (.cons b .nil)), .Subscript l (.Slice (some x) none none _) _ => matchE g a l && matchE g b x
  | .app (.sl false true) (.cons a (.cons b .nil)), .Subscript l (.Slice none (some x) none _) _ => matchE g a l && matchE g b x
  | .sl2 a b c, .Subscript l (.Slice (some x) (some y) none _) _ => matchE g a l && matchE g b x && matchE g c y
  | .app .rev (.cons a .nil), .Subscript l (.Slice none none (some (.UnaryOp .USub (.Constant (.int 1) _ _) _)) _) _ => matchE g a l
  | .app (.isi t) (.cons a .nil), .Call (.Name x _) [l, .Name y _] [] _ => g.glo x "isinstance" && (match tyName t with | some z => g.glo y z | none => false) && matchE g a l
  | .app .setlen (.cons a .nil), .Call (.Name x _) [.Call (.Name y _) [l] [] _] [] _ => g.glo x "len" && g.glo y "set" && matchE g a l
  | .app .sortset (.cons a .nil), .Call (.Name x _) [.Call (.Name y _) [l] [] _] [] _ => g.glo x "sorted" && g.glo y "set" && matchE g a l
  | .app o as, .Call (.Name x _) args [] _ => (match o with | .repr => g.gd | _ => true) && (match opFn o as.length with | some y => g.glo x y | none => false) && matchEs g as args
  | .bm o a as, .Call (.Attribute l m apos) args [] pos => (match opMt o (as.length + 1) with | some y => decide (m = y) | none => false) && (apos.endLine == pos.line) && decide (args.length < 29) && baseOk l && matchE g a l && matchEs g as args
  | .tup as, .Tuple es _ _ => decide (as.length ≤ 1000) && matchEs g as es
  | .lst _ as, .List es _ => decide (as.length ≤ 1000) && matchEs g as es
  | .newd _ _, .Dict [] [] _ => true
  | .and a b, .BoolOp .And [l, r] _ => matchE g a l && matchE g b r
  | .or a b, .BoolOp .Or [l, r] _ => matchE g a l && matchE g b r
  | .and a b, .BoolOp .And (l :: r :: q :: es) pos => matchE g a l && matchE g b (.BoolOp .And (r :: q :: es) pos)
  | .or a b, .BoolOp .Or (l :: r :: q :: es) pos => matchE g a l && matchE g b (.BoolOp .Or (r :: q :: es) pos)
  | .orv a b, .BoolOp .Or [l, r] _ => plainT l && plainT r && matchE g a l && matchE g b r
  | .not a, .UnaryOp .Not l _ => matchE g a l
  | .ite c a b, .IfExp x y z _ => matchE g c x && matchE g a y && matchE g b z
  | .attr e f, .Attribute l a _ => decide (a = g.fn f) && baseOk l && matchE g e l
  | .mut m p as, .Call (.Attribute l x apos) args [] pos => muOk m && (match muMt m as.length with | some y => decide (x = y) | none => false) && (apos.endLine == pos.line) && decide (args.length < 29) && matchPl g p l && matchEs g as args
  | .call f as, .Call (.Name x _) args [] _ => g.fk f && g.glo x (g.defs f) && matchEs g as args
  | .mcall c f o as, .Call (.Attribute l m apos) args [] pos => g.mm c f && decide (m = g.defs f) && (apos.endLine == pos.line) && decide (args.length < 29) && baseOk l && matchE g o l && matchEs g as args
  | .wall, x => notStar x
  | .fzt a, .Call f args kw pos => matchE g a (.Call f args kw pos)
  | .new c as, .Call (.Name x _) args [] _ => g.nk c && g.glo x (g.cls c) && matchEs g as args
  | .lc own tg it ifs elt _, .ListComp e [⟨t, i, fs, 0⟩] scope _ => blkC g.N g.sc scope (ownOf g own) && own.all (fun i => !g.io.contains i) && tg.slots.all (fun i => own.contains i) && itTg it t && matchTg (g.blk scope) tg t && matchI g it i && matchEs (g.blk scope) ifs fs && matchE (g.blk scope) elt e
  | _, _ => false
def matchEs (g : Gam) : Es → List Expr → Bool
  | .nil, [] => true
  | .cons e es, x :: xs => notStar x && (matchE g e x && matchEs g es xs)
  | _, _ => false
def matchI (g : Gam) : It → Expr → Bool
  | .e x, e => matchE g x e
  | .rng as, .Call (.Name x _) args [] _ => g.glo x "range" && matchEs g as args
  | .enum x, .Call (.Name y _) [e] [] _ => g.glo y "enumerate" && matchE g x e
  | .zip x z, .Call (.Name y _) [e, f] [] _ => g.glo y "zip" && matchE g x e && matchE g z f
  | .dict x, e => matchE g x e
  | _, _ => false
end
def noComp : Expr → Bool
  | .ListComp .. => false
  | .SetComp .. => false
  | .DictComp .. => false
  | _ => true
def isName : Expr → Bool
  | .Name .. => true
  | _ => false
def isLocN (sc : Scope) : Expr → Bool
  | .Name y _ => (match sc.names.lookup y with | some .local => true | _ => false)
  | _ => false
/-- no stores are swapped -/
def noSwap (g : Gam) : Expr → Expr → Bool
  | .Tuple ts _ _, .Tuple vs _ _ => !(ts.length == 2 || ts.length == 3) || vs.length != ts.length || (ts.all (isLocN g.sc) == false) || vs.all (foldedForSure 8)
  | .List _ _, .Tuple _ _ _ => false
  | _, _ => true
/-- x = e: how the value goes to the name -/
def asgOk (g : Gam) (t x : Expr) : Bool := match t, x with
  | .Name y py, .ListComp _ _ scope p => (match g.sc.names.lookup y with | some .local => (py.line == p.line) && !(scope.names.any fun nk => nk.1 == y && (nk.2 == .local || nk.2 == .cell)) | some .cell => true | _ => false)
  | .Name _ _, x => noComp x
  | t, x => noSwap g t x
def isLoc (g : Gam) (i : Nat) (y : Str) : Bool := decide (g.N[i]? = some y) && (match g.sc.names.lookup y with | some .local => true | _ => false) && !g.io.contains i
mutual
def matchS (g : Gam) : S → Stmt → Bool
  | .asg tg e, .Assign [t] x _ => asgOk g t x && matchTg g tg t && matchE g e x
  | .par (.cons (.nm i) (.cons (.nm j) .nil)) (.cons a (.cons b .nil)), .Assign [.Tuple [.Name y py, .Name z pz] _ _] (.Tuple [u, v] _ _) _ => decide (i ≠ j) && decide (y ≠ z) && isLoc g i y && isLoc g j z && (pz.line == py.line) && notStar u && notStar v &&
      !([u, v].all (foldedForSure 8)) && !([u, v].all (constantsAlone 8)) && matchE g a u && matchE g b v
  | .seti p k e, .Assign [.Subscript l j _] x _ => noSlice j && matchPl g p l && matchE g k j && matchE g e x
  | .seta p f e, .Assign [.Attribute l a _] x _ => decide (a = g.fn f) && matchPl g p l && matchE g e x
  | .augv i o e, .AugAssign (.Name y _) p x _ => decide (opAug o = some p) && g.loc i y && matchE g e x
  | .augi p k o e, .AugAssign (.Subscript l j _) q x _ => decide (opAug o = some q) && noSlice j && matchPl g p l && matchE g k j && matchE g e x
  | .ife c a b, .If x y z _ => matchE g c x && matchSs g a y && matchSs g b z
  | .for tg it body, .For t i b [] _ => itTg it t && matchTg g tg t && matchI g it i && matchSs g body b
  | .whl c body, .While t b [] _ => matchE g c t && matchSs g body b
  | .ret e, .Return (some x) _ => matchE g e x
  | .ret0, .Return none _ => true
  | .exp e, .Expr x _ => noComp x && matchE g e x
  | .pass, .Pass _ => true
  | .brk, .Break _ => true
  | .cnt, .Continue _ => true
  | .wall, _ => true
  | _, _ => false
def matchSs (g : Gam) : Ss → List Stmt → Bool
  | .nil, [] => true
  | .cons s ss, t :: ts => matchS g s t && matchSs g ss ts
  | _, _ => false
end
end DI
/-! DI5: readings by the interpreter; operands. -/
namespace DI
open PySem L2
variable {w : Wd} {F F' F1 F2 B B' H H' H1 H2 : Hp} {σ : L2.St} {env : Env} {fps fps' fps1 fps2 : Nat → List Addr}
/-- not there before, or from what was touched -/
def Fr (ef : List Nat) (H : Hp) (fps : Nat → List Addr) (fp : List Addr) : Prop := ∀ a ∈ fp, H a = none ∨ ∃ j ∈ ef, a ∈ fps j
theorem Fr.nil {ef : List Nat} : Fr ef H fps [] := fun _ h => by cases h
theorem Fr.weak {ef eg : List Nat} {fp : List Addr} (h : Fr ef H fps fp) (hs : ∀ i ∈ ef, i ∈ eg) : Fr eg H fps fp := fun a ha => by
  rcases h a ha with q | ⟨j, hj, q⟩
  · exact .inl q
  · exact .inr ⟨j, hs j hj, q⟩
theorem Stp.gone {ef : List Nat} (h : Stp ef F H fps F' H' fps') {a : Addr} (e : H' a = Option.none) : H a = Option.none := by
  cases q : H a with
  | none => rfl
  | some o => exact absurd e (h.al a (by rw [q]; exact fun z => by cases z))
theorem Fr.back {ef : List Nat} {fp : List Addr} (h : Stp ef F H fps F' H' fps') (f : Fr ef H' fps' fp) : Fr ef H fps fp := fun a ha => by
  rcases f a ha with q | ⟨j, hj, q⟩
  · exact .inl (h.gone q)
  · exact h.nw j hj a q
/-- the value of what was reckoned -/
def VO (w : Wd) (rt : Option Nat) (ef : List Nat) (H : Hp) (fps : Nat → List Addr) (F' B H' : Hp) (fps' : Nat → List Addr) (x : SD) (v : V) : Prop :=
  ∃ fp, RepS w F' B H' x.2 x.1 v fp ∧ match rt with
    | some i => ∀ a ∈ fp, a ∈ fps' i
    | none => Kp F' B H' fps' fp ∧ Fr ef H fps fp
/-- an exception: its class, its field -/
def ExR (w : Wd) (c : Nat) (fs : List D) (cls : Value) (dx : Option Addr) (F : Hp) : Prop :=
  cls = .ref (w.ca c) ∧ match fs with
    | [] => dx = none
    | [d] => ∃ x f v, dx = some x ∧ F x = some (.xd [(f, v)]) ∧ Rep w F d v
    | _ => False
section
variable (w : Wd) (sg : Sig) (cl : Calls) (W : WX)
def tE (e : E) : TE := fun σ H Q => ∃ env F B fps r, Sta w F B H σ env fps ∧ ev sg cl e env = some r ∧ match r with
  | .ok x env' => ∀ v H' F' fps', Sta w F' B H' σ env' fps' → Stp (effE sg e) F H fps F' H' fps' → VO w e.root (effE sg e) H fps F' B H' fps' x v → Q v H'
  | .ex c fs env' => ∀ cls dx H' F' fps', Sta w F' B H' σ env' fps' → Stp (effE sg e) F H fps F' H' fps' → ExR w c fs cls dx F' → W cls dx σ H'
/-- operands -/
def RepA (F B H : Hp) : List SD → List V → Prop
  | [], vs => vs = []
  | x :: xs, vs => ∃ v r, vs = v :: r ∧ (∃ fp, RepS w F B H x.2 x.1 v fp) ∧ RepA F B H xs r
def tEs (as : Es) : TA := fun σ H Q => ∃ env F B fps r, Sta w F B H σ env fps ∧ evs sg cl as env = some r ∧ match r with
  | .ok xs env' => ∀ vs H' F' fps', Sta w F' B H' σ env' fps' → Stp (effEs sg as) F H fps F' H' fps' → RepA w F' B H' xs vs → Q vs H'
  | .ex c fs env' => ∀ cls dx H' F' fps', Sta w F' B H' σ env' fps' → Stp (effEs sg as) F H fps F' H' fps' → ExR w c fs cls dx F' → W cls dx σ H'
end
theorem bind_ok {α β : Type} {m : M α} {k : α → M β} {env : Env} {r : Out β} (h : M.bind m k env = some r) :
    (∃ a e, m env = some (.ok a e) ∧ k a e = some r) ∨ ∃ c fs e, m env = some (.ex c fs e) ∧ r = .ex c fs e := by
  unfold M.bind at h
  cases q : m env with
  | none => rw [q] at h; cases h
  | some o =>
    rw [q] at h
    cases o with
    | ok a e => exact .inl ⟨a, e, rfl, h⟩
    | ex c fs e => exact .inr ⟨c, fs, e, rfl, (Option.some.inj h).symm⟩
theorem out_ok {o : Option Nat} {l : List Nat} (h : out o l = true) : ∀ i, o = some i → i ∉ l := fun i e hi => by
  subst e
  have h' : (!l.contains i) = true := h
  rw [List.contains_iff_mem.mpr hi] at h'
  cases h'
section
variable {sg : Sig} {cl : Calls} {W : WX}
theorem tEs_nil {Q : List V → Hp → Prop} (h : tEs w sg cl W .nil σ H Q) : tNil σ H Q := by
  obtain ⟨env, F, B, fps, r, S, e, q⟩ := h
  have e' : some (Out.ok [] env) = some r := e
  cases e'
  exact q [] H F fps S (Stp.refl S.fh) rfl
theorem RepA.keep {ef : List Nat} {x : SD} {v : V} {rt : Option Nat} {eg : List Nat} (S1 : Sta w F1 B H1 σ env fps1) (hv : VO w rt eg H fps F1 B H1 fps1 x v) (hn : ∀ i, rt = some i → i ∉ ef) (h : Stp ef F1 H1 fps1 F2 H2 fps2) :
    ∃ fp, RepS w F2 B H2 x.2 x.1 v fp := by
  obtain ⟨fp, r, k⟩ := hv
  refine ⟨fp, h.keep S1 (fun a ha i hi hm => ?_) r⟩
  cases rt with
  | none => exact k.1.ds a ha i hm
  | some j =>
    have e := S1.sp i j a hm (k a ha)
    subst e
    exact hn i rfl hi
theorem tEs_cons {e : E} {es : Es} {Q : List V → Hp → Prop} (wf : out e.root (effEs sg es) = true) (h : tEs w sg cl W (.cons e es) σ H Q) : tCons (tE w sg cl W e) (tEs w sg cl W es) σ H Q := by
  obtain ⟨env, F, B, fps, r, S, he, q⟩ := h
  have s1 : ∀ i ∈ effE sg e, i ∈ effE sg e ++ effEs sg es := fun i hi => List.mem_append_left _ hi
  have s2 : ∀ i ∈ effEs sg es, i ∈ effE sg e ++ effEs sg es := fun i hi => List.mem_append_right _ hi
  rcases bind_ok he with ⟨x, env1, h1, h2⟩ | ⟨c, fs, env1, h1, rfl⟩
  · refine ⟨env, F, B, fps, _, S, h1, fun v H1 F1 fps1 S1 T1 V1 => ?_⟩
    rcases bind_ok h2 with ⟨xs, env2, h3, h4⟩ | ⟨c, fs, env2, h3, rfl⟩
    · have h4' : some (Out.ok (x :: xs) env2) = some r := h4
      cases h4'
      refine ⟨env1, F1, B, fps1, _, S1, h3, fun vs H2 F2 fps2 S2 T2 V2 => ?_⟩
      exact q (v :: vs) H2 F2 fps2 S2 ((T1.weak s1).trans (T2.weak s2)) ⟨v, vs, rfl, RepA.keep S1 V1 (out_ok wf) T2, V2⟩
    · exact ⟨env1, F1, B, fps1, _, S1, h3, fun cls dx H2 F2 fps2 S2 T2 x2 => q cls dx H2 F2 fps2 S2 ((T1.weak s1).trans (T2.weak s2)) x2⟩
  · exact ⟨env, F, B, fps, _, S, h1, fun cls dx H1 F1 fps1 S1 T1 x1 => q cls dx H1 F1 fps1 S1 (T1.weak s1) x1⟩
/-- an operation on values keeps what the interpreter says -/
def OpV (w : Wd) (o : Op) (R : List V → Hp → VK → Prop) : Prop := ∀ (xs : List SD) (res : SD) (vs : List V) (F B H : Hp) (Q : VK), sem o xs = some res → RepA w F B H xs vs → Ex F H → Ex B H →
  (∀ v H' F' fp, Ex H H' → Ex F F' → Ex F' H' → (∀ a o, F' a = some o → F a = some o ∨ H a = none) → RepS w F' B H' res.2 res.1 v fp → (∀ a ∈ fp, H a = none ∧ F' a = none) → fp.Nodup → Q v H') → R vs H Q
theorem Stp.new {ef : List Nat} (S : Sta w F B H σ env fps) (eh : Ex H H') (ef' : Ex F F') (efh : Ex F' H') (hf : ∀ a o, F' a = some o → F a = some o ∨ H a = none) : Stp ef F H fps F' H' fps :=
  ⟨ef', efh, fun a o e => (hf a o e).elim .inl fun q => .inr (.inl q), fun a o e _ => eh a o e, fun a e => by
    cases q : H a with
    | none => exact absurd q e
    | some o => (rw [eh a o q]; exact fun z => by cases z), fun _ _ => rfl, fun i hi a ha => .inr ⟨i, hi, ha⟩⟩
theorem Sta.new (S : Sta w F B H σ env fps) (eh : Ex H H') (ef' : Ex F F') (efh : Ex F' H') (hf : ∀ a o, F' a = some o → F a = some o ∨ H a = none) : Sta w F' B H' σ env fps := by
  refine ⟨efh, ex_trans S.bh eh, S.ln, fun i s d e => ?_, fun i a ha => ⟨?_, (S.nf i a ha).2⟩, fun i a ha => ?_, S.nd, S.sp, S.io⟩
  · obtain ⟨v, e1, r⟩ := S.sl i s d e
    exact ⟨v, e1, RepS.mono ef' (ex_refl B) (fun a xs q => eh a _ q) d s v _ (fun a o _ q => eh a o q) r⟩
  · cases q : F' a with
    | none => rfl
    | some o =>
      rcases hf a o q with z | z
      · rw [(S.nf i a ha).1] at z
        cases z
      · obtain ⟨o', z', _⟩ := S.hd i a ha
        rw [z] at z'
        cases z'
  · obtain ⟨o, e, n⟩ := S.hd i a ha
    exact ⟨o, eh a o e, n⟩
theorem Kp.new {fp : List Addr} (S : Sta w F B H σ env fps) {d : D} {s : Sh} {v : V} (r : RepS w F' B H' d s v fp) (hf : ∀ a ∈ fp, H a = none ∧ F' a = none) (nd : fp.Nodup) : Kp F' B H' fps fp :=
  ⟨nd, fun a ha => ⟨(hf a ha).2, ex_none S.bh (hf a ha).1⟩, RepS.held d s v fp r, fun a ha i hi => by
    obtain ⟨o, e, _⟩ := S.hd i a hi
    rw [(hf a ha).1] at e
    cases e⟩
theorem app_go {o : Op} {as : Es} {R : List V → Hp → VK → Prop} {Q : VK} (hv : OpV w o R) (h : tE w sg cl W (.app o as) σ H Q) : tEs w sg cl W as σ H fun vs H' => R vs H' Q := by
  obtain ⟨env, F, B, fps, r, S, he, q⟩ := h
  rcases bind_ok he with ⟨xs, env1, h1, h2⟩ | ⟨c, fs, env1, h1, rfl⟩
  · refine ⟨env, F, B, fps, _, S, h1, fun vs H1 F1 fps1 S1 T1 V1 => ?_⟩
    have h2' : (sem o xs).map (fun a => Out.ok a env1) = some r := h2
    cases hs : sem o xs with
    | none => rw [hs] at h2'; cases h2'
    | some res =>
      rw [hs] at h2'
      cases h2'
      refine hv xs res vs F1 B H1 Q hs V1 S1.fh S1.bh fun v H2 F2 fp eh ef efh hf r hn nd => ?_
      refine q v H2 F2 fps1 (S1.new eh ef efh hf) (T1.trans (Stp.new S1 eh ef efh hf)) ⟨fp, r, Kp.new S1 r hn nd, fun a ha => .inl (T1.gone (hn a ha).1)⟩
  · exact ⟨env, F, B, fps, _, S, h1, fun cls dx H1 F1 fps1 S1 T1 x1 => q cls dx H1 F1 fps1 S1 T1 x1⟩
theorem tE.mono {e : E} {Q Q' : VK} (h : tE w sg cl W e σ H Q) (hq : ∀ v H, Q v H → Q' v H) : tE w sg cl W e σ H Q' := by
  obtain ⟨env, F, B, fps, r, S, he, q⟩ := h
  refine ⟨env, F, B, fps, r, S, he, ?_⟩
  cases r with
  | ok x env' => exact fun v H' F' fps' S' T' V' => hq _ _ (q v H' F' fps' S' T' V')
  | ex c fs env' => exact q
theorem tEs.mono {e : Es} {Q Q' : List V → Hp → Prop} (h : tEs w sg cl W e σ H Q) (hq : ∀ v H, Q v H → Q' v H) : tEs w sg cl W e σ H Q' := by
  obtain ⟨env, F, B, fps, r, S, he, q⟩ := h
  refine ⟨env, F, B, fps, r, S, he, ?_⟩
  cases r with
  | ok x env' => exact fun v H' F' fps' S' T' V' => hq _ _ (q v H' F' fps' S' T' V')
  | ex c fs env' => exact q
theorem wfEs_out {b : Bool} {e : E} {es : Es} (h : wfEs sg b (.cons e es) = true) : wfE sg e = true ∧ (b = true → out e.root (effEs sg es) = true) ∧ wfEs sg b es = true := by
  obtain ⟨h1, h2⟩ := Bool.and_eq_true_iff.mp (show ((wfE sg e && (!b || out e.root (effEs sg es))) && wfEs sg b es) = true from h)
  obtain ⟨h3, h4⟩ := Bool.and_eq_true_iff.mp h1
  exact ⟨h3, fun hb => by
    subst hb
    exact h4, h2⟩
/-- one operand, two, three -/
theorem tEs_one {a : E} {Q : List V → Hp → Prop} (wf : wfEs sg true (.cons a .nil) = true) (h : tEs w sg cl W (.cons a .nil) σ H Q) : tE w sg cl W a σ H fun x H1 => Q [x] H1 :=
  tE.mono (tEs_cons ((wfEs_out wf).2.1 rfl) h) fun _ _ q => tEs_nil q
theorem tEs_two {a b : E} {Q : List V → Hp → Prop} (wf : wfEs sg true (.cons a (.cons b .nil)) = true) (h : tEs w sg cl W (.cons a (.cons b .nil)) σ H Q) :
    tE w sg cl W a σ H fun x H1 => tE w sg cl W b σ H1 fun y H2 => Q [x, y] H2 :=
  tE.mono (tEs_cons ((wfEs_out wf).2.1 rfl) h) fun _ _ q => tEs_one (wfEs_out wf).2.2 q
theorem tEs_three {a b c : E} {Q : List V → Hp → Prop} (wf : wfEs sg true (.cons a (.cons b (.cons c .nil))) = true) (h : tEs w sg cl W (.cons a (.cons b (.cons c .nil))) σ H Q) :
    tE w sg cl W a σ H fun x H1 => tE w sg cl W b σ H1 fun y H2 => tE w sg cl W c σ H2 fun z H3 => Q [x, y, z] H3 :=
  tE.mono (tEs_cons ((wfEs_out wf).2.1 rfl) h) fun _ _ q => tEs_two (wfEs_out wf).2.2 q
end
theorem PE.imp {X : Cx} {e : Expr} {t t' : TE} (h : PE X e t) (hi : ∀ σ H Q, t' σ H Q → t σ H Q) : PE X e t' := ⟨fun pins s σ H Q I q => h.run pins s σ H Q I (hi σ H Q q)⟩
theorem PT.imp {X : Cx} {e : Expr} {t t' : TT} (h : PT X e t) (hi : ∀ σ H Q, t' σ H Q → t σ H Q) : PT X e t' := ⟨fun pins s σ H Q I q => h.run pins s σ H Q I (hi σ H Q q)⟩
theorem PA.imp {X : Cx} {e : List Expr} {t t' : TA} (h : PA X e t) (hi : ∀ σ H Q, t' σ H Q → t σ H Q) : PA X e t' := ⟨fun pos pins s σ H Q I q => h.run pos pins s σ H Q I (hi σ H Q q)⟩
theorem PS.imp {X : Cx} {e : Stmt} {t t' : TS} (h : PS X e t) (hi : ∀ D σ H, t' D σ H → t D σ H) : PS X e t' := ⟨fun pins s σ H D I q => h.run pins s σ H D I (hi D σ H q)⟩
theorem PSs.imp {X : Cx} {e : List Stmt} {t t' : TS} (h : PSs X e t) (hi : ∀ D σ H, t' D σ H → t D σ H) : PSs X e t' := ⟨fun pins s σ H D I q => h.run pins s σ H D I (hi D σ H q)⟩
end DI
/-! DI6: operations on values. -/
namespace DI
open PySem L2
variable {w : Wd} {F F' B H H' : Hp} {Q : VK}
theorem repA2 {a b : SD} {vs : List V} (h : RepA w F B H [a, b] vs) : ∃ x y, vs = [x, y] ∧ (∃ fp, RepS w F B H a.2 a.1 x fp) ∧ ∃ fp, RepS w F B H b.2 b.1 y fp := by
  obtain ⟨x, r, rfl, h1, y, r', rfl, h2, rfl⟩ := h
  exact ⟨x, y, rfl, h1, h2⟩
theorem repA1 {a : SD} {vs : List V} (h : RepA w F B H [a] vs) : ∃ x, vs = [x] ∧ ∃ fp, RepS w F B H a.2 a.1 x fp := by
  obtain ⟨x, r, rfl, h1, rfl⟩ := h
  exact ⟨x, rfl, h1⟩
theorem repA3 {a b c : SD} {vs : List V} (h : RepA w F B H [a, b, c] vs) : ∃ x y z, vs = [x, y, z] ∧ (∃ fp, RepS w F B H a.2 a.1 x fp) ∧ (∃ fp, RepS w F B H b.2 b.1 y fp) ∧ ∃ fp, RepS w F B H c.2 c.1 z fp := by
  obtain ⟨x, r, rfl, h1, y, r', rfl, h2, z, r'', rfl, h3, rfl⟩ := h
  exact ⟨x, y, z, rfl, h1, h2, h3⟩
theorem v_int {s : Sh} {i : Int} {v : V} (h : ∃ fp, RepS w F B H (.int i) s v fp) : v = .int i := h.elim fun _ r => RepS.scalar (F' := F) rfl r
theorem v_str {s : Sh} {i : Str} {v : V} (h : ∃ fp, RepS w F B H (.str i) s v fp) : v = .str i := h.elim fun _ r => RepS.scalar (F' := F) rfl r
theorem v_bl {s : Sh} {i : Bool} {v : V} (h : ∃ fp, RepS w F B H (.bl i) s v fp) : v = .bl i := h.elim fun _ r => RepS.scalar (F' := F) rfl r
theorem v_non {s : Sh} {v : V} (h : ∃ fp, RepS w F B H .non s v fp) : v = .non := h.elim fun _ r => RepS.scalar (F' := F) rfl r
theorem sem_two {o : Op} {xs : List SD} {res : SD} (h1 : ∀ a, sem1 o a = none) (h3 : ∀ a b c, sem3 o a b c = none) (h : sem o xs = some res) : ∃ a b, xs = [a, b] := by
  rcases xs with _ | ⟨a, _ | ⟨b, _ | ⟨c, _ | ⟨d, r⟩⟩⟩⟩
  · cases h
  · rw [show sem o [a] = sem1 o a from rfl, h1] at h; cases h
  · exact ⟨a, b, rfl⟩
  · rw [show sem o [a, b, c] = sem3 o a b c from rfl, h3] at h; cases h
  · cases h
theorem sem_one {o : Op} {xs : List SD} {res : SD} (h2 : ∀ a b, sem2 o a b = none) (h3 : ∀ a b c, sem3 o a b c = none) (h : sem o xs = some res) : ∃ a, xs = [a] := by
  rcases xs with _ | ⟨a, _ | ⟨b, _ | ⟨c, _ | ⟨d, r⟩⟩⟩⟩
  · cases h
  · exact ⟨a, rfl⟩
  · rw [show sem o [a, b] = sem2 o a b from rfl, h2] at h; cases h
  · rw [show sem o [a, b, c] = sem3 o a b c from rfl, h3] at h; cases h
  · cases h
/-- what a reading's continuation is given -/
abbrev Cont (w : Wd) (F B H : Hp) (res : SD) (Q : VK) : Prop := ∀ v H' F' fp, Ex H H' → Ex F F' → Ex F' H' → (∀ a o, F' a = some o → F a = some o ∨ H a = none) → RepS w F' B H' res.2 res.1 v fp → (∀ a ∈ fp, H a = none ∧ F' a = none) → fp.Nodup → Q v H'
theorem Cont.sc {d : D} {v : V} (k : Cont w F B H (.frz, d) Q) (eh : Ex F H) (r : Rep w F d v) : Q v H :=
  k v H F [] (ex_refl H) (ex_refl F) eh (fun _ _ e => .inl e) (RepS_frz.mpr ⟨r, rfl⟩) (fun _ h => by cases h) List.nodup_nil
abbrev Rtwo (r : R2) : List V → Hp → VK → Prop := fun vs H Q => ∃ x y, vs = [x, y] ∧ r x y H Q
abbrev Rone (r : V → Hp → VK → Prop) : List V → Hp → VK → Prop := fun vs H Q => ∃ x, vs = [x] ∧ r x H Q
theorem ov_sub : OpV w .sub (Rtwo (rI0 fun i j => .int (i - j))) := by
  intro xs res vs F B H Q hs hr eh eb k
  obtain ⟨⟨s, a⟩, ⟨t, b⟩, rfl⟩ := sem_two (fun _ => rfl) (fun _ _ _ => rfl) hs
  obtain ⟨x, y, rfl, h1, h2⟩ := repA2 hr
  cases a <;> first | (cases hs; done) | (cases b <;> first | (cases hs; done) | skip)
  · rename_i i j
    cases hs
    rw [v_int h1, v_int h2]
    exact ⟨_, _, rfl, i, j, rfl, rfl, Cont.sc k eh rfl⟩

theorem ov_band : OpV w .band (Rtwo (rI0 fun i j => .int (Builtin.bitAnd i j))) := by
  intro xs res vs F B H Q hs hr eh eb k
  obtain ⟨⟨s, a⟩, ⟨t, b⟩, rfl⟩ := sem_two (fun _ => rfl) (fun _ _ _ => rfl) hs
  obtain ⟨x, y, rfl, h1, h2⟩ := repA2 hr
  cases a <;> first | (cases hs; done) | (cases b <;> first | (cases hs; done) | skip)
  · rename_i i j
    cases hs
    rw [v_int h1, v_int h2]
    exact ⟨_, _, rfl, i, j, rfl, rfl, Cont.sc k eh rfl⟩

theorem ov_bor : OpV w .bor (Rtwo (rI0 fun i j => .int (Builtin.bitOr i j))) := by
  intro xs res vs F B H Q hs hr eh eb k
  obtain ⟨⟨s, a⟩, ⟨t, b⟩, rfl⟩ := sem_two (fun _ => rfl) (fun _ _ _ => rfl) hs
  obtain ⟨x, y, rfl, h1, h2⟩ := repA2 hr
  cases a <;> first | (cases hs; done) | (cases b <;> first | (cases hs; done) | skip)
  · rename_i i j
    cases hs
    rw [v_int h1, v_int h2]
    exact ⟨_, _, rfl, i, j, rfl, rfl, Cont.sc k eh rfl⟩

theorem ov_le : OpV w .le (Rtwo (rI0 fun i j => .bl (decide (i ≤ j)))) := by
  intro xs res vs F B H Q hs hr eh eb k
  obtain ⟨⟨s, a⟩, ⟨t, b⟩, rfl⟩ := sem_two (fun _ => rfl) (fun _ _ _ => rfl) hs
  obtain ⟨x, y, rfl, h1, h2⟩ := repA2 hr
  cases a <;> first | (cases hs; done) | (cases b <;> first | (cases hs; done) | skip)
  · rename_i i j
    cases hs
    rw [v_int h1, v_int h2]
    exact ⟨_, _, rfl, i, j, rfl, rfl, Cont.sc k eh rfl⟩

theorem ov_gt : OpV w .gt (Rtwo (rI0 fun i j => .bl (decide (j < i)))) := by
  intro xs res vs F B H Q hs hr eh eb k
  obtain ⟨⟨s, a⟩, ⟨t, b⟩, rfl⟩ := sem_two (fun _ => rfl) (fun _ _ _ => rfl) hs
  obtain ⟨x, y, rfl, h1, h2⟩ := repA2 hr
  cases a <;> first | (cases hs; done) | (cases b <;> first | (cases hs; done) | skip)
  · rename_i i j
    cases hs
    rw [v_int h1, v_int h2]
    exact ⟨_, _, rfl, i, j, rfl, rfl, Cont.sc k eh rfl⟩

theorem ov_ge : OpV w .ge (Rtwo (rI0 fun i j => .bl (decide (j ≤ i)))) := by
  intro xs res vs F B H Q hs hr eh eb k
  obtain ⟨⟨s, a⟩, ⟨t, b⟩, rfl⟩ := sem_two (fun _ => rfl) (fun _ _ _ => rfl) hs
  obtain ⟨x, y, rfl, h1, h2⟩ := repA2 hr
  cases a <;> first | (cases hs; done) | (cases b <;> first | (cases hs; done) | skip)
  · rename_i i j
    cases hs
    rw [v_int h1, v_int h2]
    exact ⟨_, _, rfl, i, j, rfl, rfl, Cont.sc k eh rfl⟩

theorem ov_fdiv : OpV w .fdiv (Rtwo (rI CDivW fun i j => .int (i / j))) := by
  intro xs res vs F B H Q hs hr eh eb k
  obtain ⟨⟨s, a⟩, ⟨t, b⟩, rfl⟩ := sem_two (fun _ => rfl) (fun _ _ _ => rfl) hs
  obtain ⟨x, y, rfl, h1, h2⟩ := repA2 hr
  cases a <;> first | (cases hs; done) | (cases b <;> first | (cases hs; done) | skip)
  · rename_i i j
    have hs' : (if decide (0 < j) && decide (j.natAbs < 2 ^ 9000) then sc _ else none) = some res := hs
    split at hs'
    · rename_i hc
      cases hs'
      rw [v_int h1, v_int h2]
      exact ⟨_, _, rfl, i, j, rfl, rfl, (by simp only [Bool.and_eq_true, decide_eq_true_eq] at hc; exact wide_div hc.1 hc.2 (by decide) (by decide)), Cont.sc k eh rfl⟩
    · cases hs'

theorem ov_mod : OpV w .mod (Rtwo (rI (fun _ j => 0 < j) fun i j => .int (i % j))) := by
  intro xs res vs F B H Q hs hr eh eb k
  obtain ⟨⟨s, a⟩, ⟨t, b⟩, rfl⟩ := sem_two (fun _ => rfl) (fun _ _ _ => rfl) hs
  obtain ⟨x, y, rfl, h1, h2⟩ := repA2 hr
  cases a <;> first | (cases hs; done) | (cases b <;> first | (cases hs; done) | skip)
  · rename_i i j
    have hs' : (if 0 < j then sc _ else none) = some res := hs
    split at hs'
    · rename_i hc
      cases hs'
      rw [v_int h1, v_int h2]
      exact ⟨_, _, rfl, i, j, rfl, rfl, hc, Cont.sc k eh rfl⟩
    · cases hs'

theorem ov_pow : OpV w .pow (Rtwo (rI CPow fun i j => .int (i ^ j.toNat))) := by
  intro xs res vs F B H Q hs hr eh eb k
  obtain ⟨⟨s, a⟩, ⟨t, b⟩, rfl⟩ := sem_two (fun _ => rfl) (fun _ _ _ => rfl) hs
  obtain ⟨x, y, rfl, h1, h2⟩ := repA2 hr
  cases a <;> first | (cases hs; done) | (cases b <;> first | (cases hs; done) | skip)
  · rename_i i j
    have hs' : (if decide (0 ≤ j) && decide (j ≤ 1000000) && decide (i.natAbs < 2 ^ 64) then sc _ else none) = some res := hs
    split at hs'
    · rename_i hc
      cases hs'
      rw [v_int h1, v_int h2]
      exact ⟨_, _, rfl, i, j, rfl, rfl, (by simp only [Bool.and_eq_true, decide_eq_true_eq] at hc; exact ⟨hc.1.1, hc.1.2, hc.2⟩), Cont.sc k eh rfl⟩
    · cases hs'

theorem ov_shl : OpV w .shl (Rtwo (rI CPow fun i j => .int (i * 2 ^ j.toNat))) := by
  intro xs res vs F B H Q hs hr eh eb k
  obtain ⟨⟨s, a⟩, ⟨t, b⟩, rfl⟩ := sem_two (fun _ => rfl) (fun _ _ _ => rfl) hs
  obtain ⟨x, y, rfl, h1, h2⟩ := repA2 hr
  cases a <;> first | (cases hs; done) | (cases b <;> first | (cases hs; done) | skip)
  · rename_i i j
    have hs' : (if decide (0 ≤ j) && decide (j ≤ 1000000) && decide (i.natAbs < 2 ^ 64) then sc _ else none) = some res := hs
    split at hs'
    · rename_i hc
      cases hs'
      rw [v_int h1, v_int h2]
      exact ⟨_, _, rfl, i, j, rfl, rfl, (by simp only [Bool.and_eq_true, decide_eq_true_eq] at hc; exact ⟨hc.1.1, hc.1.2, hc.2⟩), Cont.sc k eh rfl⟩
    · cases hs'

theorem ov_shr : OpV w .shr (Rtwo (rI (fun _ j => 0 ≤ j) fun i j => .int (i / 2 ^ j.toNat))) := by
  intro xs res vs F B H Q hs hr eh eb k
  obtain ⟨⟨s, a⟩, ⟨t, b⟩, rfl⟩ := sem_two (fun _ => rfl) (fun _ _ _ => rfl) hs
  obtain ⟨x, y, rfl, h1, h2⟩ := repA2 hr
  cases a <;> first | (cases hs; done) | (cases b <;> first | (cases hs; done) | skip)
  · rename_i i j
    have hs' : (if 0 ≤ j then sc _ else none) = some res := hs
    split at hs'
    · rename_i hc
      cases hs'
      rw [v_int h1, v_int h2]
      exact ⟨_, _, rfl, i, j, rfl, rfl, hc, Cont.sc k eh rfl⟩
    · cases hs'

theorem ov_lt : OpV w .lt (Rtwo (fun x y H Q => (rI0 fun i j => .bl (decide (i < j))) x y H Q ∨ ∃ i j, x = .str i ∧ y = .str j ∧ Q (.bl (decide (i.cps.toList < j.cps.toList))) H)) := by
  intro xs res vs F B H Q hs hr eh eb k
  obtain ⟨⟨s, a⟩, ⟨t, b⟩, rfl⟩ := sem_two (fun _ => rfl) (fun _ _ _ => rfl) hs
  obtain ⟨x, y, rfl, h1, h2⟩ := repA2 hr
  cases a <;> first | (cases hs; done) | (cases b <;> first | (cases hs; done) | skip)
  · rename_i i j
    cases hs
    rw [v_int h1, v_int h2]
    exact ⟨_, _, rfl, .inl ⟨i, j, rfl, rfl, Cont.sc k eh rfl⟩⟩
  · rename_i i j
    cases hs
    rw [v_str h1, v_str h2]
    exact ⟨_, _, rfl, .inr ⟨i, j, rfl, rfl, Cont.sc k eh rfl⟩⟩

theorem ov_neg : OpV w .neg (Rone (rU fun i => .int (-i))) := by
  intro xs res vs F B H Q hs hr eh eb k
  obtain ⟨⟨s, a⟩, rfl⟩ := sem_one (fun _ _ => rfl) (fun _ _ _ => rfl) hs
  obtain ⟨x, rfl, h1⟩ := repA1 hr
  cases a <;> first | (cases hs; done) | skip
  · rename_i i
    cases hs
    rw [v_int h1]
    exact ⟨_, rfl, i, rfl, Cont.sc k eh rfl⟩

/-! ### data as the library says it -/
mutual
theorem rep_dp {H : Hp} : ∀ (d : D) (v : V) (p : PyData), Rep w H d v → toPy d = some p → Dp w.K H v p
  | .non, _, _, h, e => by cases e; cases h; exact .non
  | .bl _, _, _, h, e => by cases e; cases h; exact .bl _
  | .int _, _, _, h, e => by cases e; cases h; exact .int _
  | .str _, _, _, h, e => by cases e; cases h; exact .str _
  | .tup ds, _, _, h, e => by
    obtain ⟨a, vs, rfl, e2, e3⟩ := h
    have e' : (toPys ds).map PyData.tuple = some _ := e
    obtain ⟨ps, q1, rfl⟩ := Option.map_eq_some_iff.mp e'
    exact .tup (SqT.of e2) (rep_dps ds vs ps e3 q1)
  | .lst ds, _, _, h, e => by
    obtain ⟨a, vs, rfl, e2, e3⟩ := h
    have e' : (toPys ds).map PyData.list = some _ := e
    obtain ⟨ps, q1, rfl⟩ := Option.map_eq_some_iff.mp e'
    exact .lst (SqL.of e2) (rep_dps ds vs ps e3 q1)
  | .dic _, _, _, _, e => by cases e
  | .dit _, _, _, _, e => by cases e
  | .obj _ _, _, _, _, e => by cases e
  | .scr _, _, _, _, e => by cases e
theorem rep_dps {H : Hp} : ∀ (d : List D) (v : List V) (p : List PyData), Reps w H d v → toPys d = some p → DpAll w.K H v p
  | [], _, _, h, e => by cases e; cases h; exact .nil
  | d :: ds, _, _, h, e => by
    obtain ⟨v, r, rfl, h1, h2⟩ := h
    have e' : ((toPy d).bind fun y => (toPys ds).map fun ys => y :: ys) = some _ := e
    obtain ⟨y, q1, q2⟩ := Option.bind_eq_some_iff.mp e'
    obtain ⟨ys, q3, rfl⟩ := Option.map_eq_some_iff.mp q2
    exact .cons (rep_dp d v y h1 q1) (rep_dps ds r ys h2 q3)
end
theorem v_dp {s : Sh} {d : D} {v : V} {p : PyData} (eh : Ex F H) (eb : Ex B H) (h : ∃ fp, RepS w F B H d s v fp) (e : toPy d = some p) : Dp w.K H v p := h.elim fun fp r => rep_dp d v p (RepS.all eh eb d s v fp r) e
theorem eqvD_ok {a b : D} {c : Bool} (h : eqvD a b = some c) : ∃ x y, toPy a = some x ∧ toPy b = some y ∧ SeqAt.shaped x = true ∧ SeqAt.shaped y = true ∧ c = PyData.eqv x y := by
  unfold eqvD at h
  split at h
  · rename_i x y h1 h2
    split at h
    · rename_i hc
      simp only [Bool.and_eq_true] at hc
      cases h
      exact ⟨x, y, h1, h2, hc.1, hc.2, rfl⟩
    · cases h
  · cases h
theorem ov_eq : OpV w .eq (Rtwo (rEqD w.K)) := by
  intro xs res vs F B H Q hs hr eh eb k
  obtain ⟨⟨s, a⟩, ⟨t, b⟩, rfl⟩ := sem_two (fun _ => rfl) (fun _ _ _ => rfl) hs
  · obtain ⟨x, y, rfl, h1, h2⟩ := repA2 hr
    have hs' : ((eqvD a b).bind fun c => sc (.bl c)) = some res := hs
    obtain ⟨c, hc, hs'⟩ := Option.bind_eq_some_iff.mp hs'
    cases hs'
    obtain ⟨p, q, e1, e2, s1, s2, rfl⟩ := eqvD_ok hc
    exact ⟨_, _, rfl, p, q, v_dp eh eb h1 e1, v_dp eh eb h2 e2, s1, s2, Cont.sc k eh rfl⟩
theorem ov_ne : OpV w .ne (Rtwo (rNeD w.K)) := by
  intro xs res vs F B H Q hs hr eh eb k
  obtain ⟨⟨s, a⟩, ⟨t, b⟩, rfl⟩ := sem_two (fun _ => rfl) (fun _ _ _ => rfl) hs
  · obtain ⟨x, y, rfl, h1, h2⟩ := repA2 hr
    have hs' : ((eqvD a b).bind fun c => sc (.bl (!c))) = some res := hs
    obtain ⟨c, hc, hs'⟩ := Option.bind_eq_some_iff.mp hs'
    cases hs'
    obtain ⟨p, q, e1, e2, s1, s2, rfl⟩ := eqvD_ok hc
    exact ⟨_, _, rfl, p, q, v_dp eh eb h1 e1, v_dp eh eb h2 e2, s1, s2, Cont.sc k eh rfl⟩
theorem not_non {d : D} {v : V} (h : Rep w F d v) : decide (v = .non) = d.isNon := by
  cases d with
  | non => cases h; rfl
  | bl b => cases h; rfl
  | int b => cases h; rfl
  | str b => cases h; rfl
  | _ =>
    obtain ⟨a, h⟩ := h
    first
      | (obtain ⟨vs, rfl, h⟩ := h; rfl)
      | (obtain ⟨dx, vs, rfl, h⟩ := h; rfl)
      | (obtain ⟨rfl, h⟩ := h; rfl)
theorem ov_isN : OpV w .isN (Rone fun x H Q => Q (.bl (decide (x = .non))) H) := by
  intro xs res vs F B H Q hs hr eh eb k
  obtain ⟨⟨s, a⟩, rfl⟩ := sem_one (fun _ _ => rfl) (fun _ _ _ => rfl) hs
  · obtain ⟨x, rfl, h1⟩ := repA1 hr
    obtain ⟨fp, r⟩ := h1
    have e := not_non (RepS.all eh eb _ _ _ _ r)
    have hs' : sc (.bl a.isNon) = some res := hs
    cases hs'
    refine ⟨_, rfl, ?_⟩
    show Q (V.bl (decide (x = V.non))) H
    rw [e]
    exact Cont.sc k eh rfl
theorem ov_notN : OpV w .notN (Rone fun x H Q => Q (.bl (!decide (x = .non))) H) := by
  intro xs res vs F B H Q hs hr eh eb k
  obtain ⟨⟨s, a⟩, rfl⟩ := sem_one (fun _ _ => rfl) (fun _ _ _ => rfl) hs
  · obtain ⟨x, rfl, h1⟩ := repA1 hr
    obtain ⟨fp, r⟩ := h1
    have e := not_non (RepS.all eh eb _ _ _ _ r)
    have hs' : sc (.bl (!a.isNon)) = some res := hs
    cases hs'
    refine ⟨_, rfl, ?_⟩
    show Q (V.bl (!decide (x = V.non))) H
    rw [e]
    exact Cont.sc k eh rfl
/-! ### new lists and tuples -/
mutual
theorem reps_ss : ∀ (ds : List D) (vs : List V), Reps w F ds vs → RepSs w F B H ds .frz vs []
  | [], _, h => ⟨h, rfl⟩
  | d :: ds, _, h => by
    obtain ⟨v, r, e1, e2, e3⟩ := h
    exact ⟨v, r, [], [], e1, rfl, RepS_frz.mpr ⟨e2, rfl⟩, reps_ss ds r e3⟩
end
theorem Reps.length : ∀ {ds : List D} {vs : List V}, Reps w F ds vs → vs.length = ds.length
  | [], _, h => by cases h; rfl
  | d :: ds, _, h => by
    obtain ⟨v, r, rfl, e2, e3⟩ := h
    rw [List.length_cons, List.length_cons, Reps.length e3]
theorem Reps.append : ∀ {ds es : List D} {vs us : List V}, Reps w F ds vs → Reps w F es us → Reps w F (ds ++ es) (vs ++ us)
  | [], _, _, _, h, h2 => by cases h; exact h2
  | d :: ds, _, _, _, h, h2 => by
    obtain ⟨v, r, rfl, e2, e3⟩ := h
    exact ⟨v, r ++ _, rfl, e2, Reps.append e3 h2⟩
theorem Reps.take : ∀ {ds : List D} {vs : List V} (n : Nat), Reps w F ds vs → Reps w F (ds.take n) (vs.take n)
  | _, _, 0, _ => rfl
  | [], _, _ + 1, h => by cases h; rfl
  | d :: ds, _, n + 1, h => by
    obtain ⟨v, r, rfl, e2, e3⟩ := h
    exact ⟨v, r.take n, rfl, e2, Reps.take n e3⟩
theorem Reps.drop : ∀ {ds : List D} {vs : List V} (n : Nat), Reps w F ds vs → Reps w F (ds.drop n) (vs.drop n)
  | _, _, 0, h => h
  | [], _, _ + 1, h => by cases h; rfl
  | d :: ds, _, n + 1, h => by
    obtain ⟨v, r, rfl, e2, e3⟩ := h
    exact Reps.drop n e3
theorem Reps.reverse : ∀ {ds : List D} {vs : List V}, Reps w F ds vs → Reps w F ds.reverse vs.reverse
  | [], _, h => by cases h; rfl
  | d :: ds, _, h => by
    obtain ⟨v, r, rfl, e2, e3⟩ := h
    rw [List.reverse_cons, List.reverse_cons]
    exact (Reps.reverse e3).append ⟨v, [], rfl, e2, rfl⟩
theorem Reps.rep {ds : List D} {vs : List V} (h : Reps w F ds vs) : ∀ k : Nat, Reps w F (List.replicate k ds).flatten (List.replicate k vs).flatten
  | 0 => rfl
  | k + 1 => by
    rw [List.replicate_succ, List.replicate_succ, List.flatten_cons, List.flatten_cons]
    exact h.append (Reps.rep h k)
theorem Reps.get : ∀ {ds : List D} {vs : List V} {i : Nat} {d : D}, Reps w F ds vs → ds[i]? = some d → ∃ v, vs[i]? = some v ∧ Rep w F d v
  | [], _, _, _, h, e => by simp at e
  | d :: ds, _, 0, _, h, e => by
    obtain ⟨v, r, rfl, e2, e3⟩ := h
    simp at e
    subst e
    exact ⟨v, rfl, e2⟩
  | d :: ds, _, i + 1, _, h, e => by
    obtain ⟨v, r, rfl, e2, e3⟩ := h
    obtain ⟨u, q1, q2⟩ := Reps.get (i := i) e3 (by simpa using e)
    exact ⟨u, by simpa using q1, q2⟩
theorem Reps.scalar : ∀ {ds : List D} {vs : List V}, ds.all D.scal = true → Reps w F ds vs → Reps w F' ds vs
  | [], _, _, h => h
  | d :: ds, _, hs, h => by
    obtain ⟨v, r, e1, e2, e3⟩ := h
    simp only [List.all_cons, Bool.and_eq_true] at hs
    exact ⟨v, r, e1, Rep.scalar hs.1 e2, Reps.scalar hs.2 e3⟩
theorem Cont.lit {ds : List D} {vs : List V} (k : Cont w F B H (.lst .frz, .lst ds) Q) (eh : Ex F H) (r : Reps w F ds vs) {p : Addr} (hp : H p = none) : Q (.ref p) (upd H p (.lst vs)) := by
  have fp : F p = none := ex_none eh hp
  refine k (.ref p) _ F [p] (ex_upd hp) (ex_refl F) (ex_trans eh (ex_upd hp)) (fun _ _ e => .inl e) ⟨p, vs, [], rfl, rfl, upd_same, reps_ss ds vs r⟩ (fun a ha => ?_) (by simp)
  rw [List.mem_singleton.mp ha]
  exact ⟨hp, fp⟩
theorem Cont.tup {ds : List D} {vs : List V} (k : Cont w F B H (.frz, .tup ds) Q) (eh : Ex F H) (r : Reps w F ds vs) {p : Addr} (hp : H p = none) : Q (.ref p) (upd H p (.tup vs)) := by
  have fp : F p = none := ex_none eh hp
  refine k (.ref p) _ (upd F p (.tup vs)) [] (ex_upd hp) (ex_upd fp) (fun a o e => ?_) (fun a o e => ?_) (RepS_frz.mpr ⟨⟨p, vs, rfl, upd_same, Reps.mono (ex_upd fp) ds vs r⟩, rfl⟩) (fun a ha => by cases ha) List.nodup_nil
  · by_cases ha : a = p
    · subst ha
      rw [upd_same] at e ⊢
      exact e
    · rw [upd_ne ha] at e ⊢
      exact eh a o e
  · by_cases ha : a = p
    · subst ha
      exact .inr hp
    · rw [upd_ne ha] at e
      exact .inl e
theorem repss_all : ∀ (ds : List D) (vs : List V) (fp : List Addr), RepSs w F B H ds .frz vs fp → Reps w F ds vs
  | [], _, _, h => h.1
  | d :: ds, _, _, h => by
    obtain ⟨v, r, f1, f2, e1, e2, e3, e4⟩ := h
    exact ⟨v, r, e1, (RepS_frz.mp e3).1, repss_all ds r f2 e4⟩
theorem isF_eq {s : Sh} (h : s.isF = true) : s = .frz := by
  cases s <;> first | rfl | cases h
/-- the items that may be shared -/
theorem kids_ok {s : Sh} {d : D} {v : V} {ds : List D} (eh : Ex F H) (eb : Ex B H) (h : ∃ fp, RepS w F B H d s v fp) (e : kids (s, d) = some ds) :
    ∃ a vs, v = .ref a ∧ Reps w F ds vs ∧ ((d = .lst ds ∧ H a = some (.lst vs)) ∨ (d = .tup ds ∧ H a = some (.tup vs))) := by
  obtain ⟨fp, r⟩ := h
  have ra := RepS.all eh eb _ _ _ _ r
  cases d with
  | lst es =>
    have e' : (if (s.kidsF || es.all D.scal) = true then some es else none) = some ds := e
    by_cases q : (s.kidsF || es.all D.scal) = true
    · rw [if_pos q] at e'
      cases e'
      rcases Bool.or_eq_true_iff.mp q with q | q
      · cases s with
        | frz =>
          obtain ⟨a, vs, e1, e2, e3⟩ := (RepS_frz.mp r).1
          exact ⟨a, vs, e1, e3, .inl ⟨rfl, eh _ _ e2⟩⟩
        | lst t =>
          have et := isF_eq (show t.isF = true from q)
          subst et
          obtain ⟨a, vs, fq, e1, e2, e3, e4⟩ := r
          exact ⟨a, vs, e1, repss_all _ vs fq e4, .inl ⟨rfl, e3⟩⟩
        | _ => cases q
      · obtain ⟨a, vs, e1, e2, e3⟩ := ra
        exact ⟨a, vs, e1, Reps.scalar q e3, .inl ⟨rfl, e2⟩⟩
    · rw [if_neg q] at e'
      cases e'
  | tup es =>
    have e' : (if (s.isF || es.all D.scal) = true then some es else none) = some ds := e
    by_cases q : (s.isF || es.all D.scal) = true
    · rw [if_pos q] at e'
      cases e'
      rcases Bool.or_eq_true_iff.mp q with q | q
      · have et := isF_eq q
        subst et
        obtain ⟨a, vs, e1, e2, e3⟩ := (RepS_frz.mp r).1
        exact ⟨a, vs, e1, e3, .inr ⟨rfl, eh _ _ e2⟩⟩
      · obtain ⟨a, vs, e1, e2, e3⟩ := ra
        exact ⟨a, vs, e1, Reps.scalar q e3, .inr ⟨rfl, e2⟩⟩
    · rw [if_neg q] at e'
      cases e'
  | _ => cases e
theorem kids_lst {s : Sh} {es : List D} {v : V} {ds : List D} (eh : Ex F H) (eb : Ex B H) (h : ∃ fp, RepS w F B H (.lst es) s v fp) (e : kids (s, .lst es) = some ds) : ∃ a vs, v = .ref a ∧ Reps w F ds vs ∧ H a = some (.lst vs) ∧ es = ds := by
  obtain ⟨a, vs, e1, e2, h | h⟩ := kids_ok eh eb h e
  · obtain ⟨h1, h2⟩ := h
    cases h1
    exact ⟨a, vs, e1, e2, h2, rfl⟩
  · cases h.1
theorem kids_tup {s : Sh} {es : List D} {v : V} {ds : List D} (eh : Ex F H) (eb : Ex B H) (h : ∃ fp, RepS w F B H (.tup es) s v fp) (e : kids (s, .tup es) = some ds) : ∃ a vs, v = .ref a ∧ Reps w F ds vs ∧ H a = some (.tup vs) ∧ es = ds := by
  obtain ⟨a, vs, e1, e2, h | h⟩ := kids_ok eh eb h e
  · cases h.1
  · obtain ⟨h1, h2⟩ := h
    cases h1
    exact ⟨a, vs, e1, e2, h2, rfl⟩
end DI
/-! DI6b: items, keys. -/
namespace DI
open PySem L2
variable {w : Wd} {F F' B H H' : Hp} {Q : VK}
/-! ### keys -/
theorem keyOf_v {d : D} {k : Key} {y : V} (h : Rep w H d y) (e : keyOf d = some k) : y = kV k := by
  cases d with
  | int i => cases e; exact h
  | str s => cases e; exact h
  | _ => cases e
theorem keysOf_v : ∀ {ds : List D} {ks : List Key} {vs : List V}, Reps w H ds vs → keysOf ds = some ks → vs = ks.map kV
  | [], _, _, h, e => by cases e; cases h; rfl
  | d :: ds, _, _, h, e => by
    obtain ⟨v, r, rfl, h1, h2⟩ := h
    have e' : ((keyOf d).bind fun k => (keysOf ds).map fun ks => k :: ks) = some _ := e
    obtain ⟨k, q1, q2⟩ := Option.bind_eq_some_iff.mp e'
    obtain ⟨ks, q3, rfl⟩ := Option.map_eq_some_iff.mp q2
    rw [keyOf_v h1 q1, keysOf_v h2 q3, List.map_cons]
theorem tkeyOf_v {d : D} {ks : List Key} {y : V} (h : Rep w H d y) (e : tkeyOf d = some ks) : ∃ b, y = .ref b ∧ H b = some (.tup (ks.map kV)) := by
  cases d with
  | tup ds =>
    obtain ⟨b, vs, rfl, h2, h3⟩ := h
    exact ⟨b, rfl, by rw [h2, keysOf_v h3 e]⟩
  | _ => cases e
theorem assoc_K {k : Key} : ∀ {kvs : List (Key × D)} {ws : List (Key × V)}, RepK w F kvs ws → (∀ d, assoc k kvs = some d → ∃ v, valV ws k = some v ∧ Rep w F d v) ∧ (assoc k kvs = none → valV ws k = none)
  | [], _, h => by cases h; exact ⟨fun d e => (by cases e), fun _ => rfl⟩
  | (j, d) :: r, _, h => by
    obtain ⟨v, q, rfl, h1, h2⟩ := h
    obtain ⟨a1, a2⟩ := assoc_K (k := k) h2
    by_cases e : j = k
    · refine ⟨fun d' q' => ?_, fun q' => ?_⟩
      · rw [assoc, if_pos e] at q'
        cases q'
        exact ⟨v, valV_pos e, h1⟩
      · rw [assoc, if_pos e] at q'
        cases q'
    · refine ⟨fun d' q' => ?_, fun q' => ?_⟩
      · rw [assoc, if_neg e] at q'
        rw [valV_neg e]
        exact a1 d' q'
      · rw [assoc, if_neg e] at q'
        rw [valV_neg e]
        exact a2 q'
theorem assoc_T {k : List Key} : ∀ {kvs : List (List Key × D)} {ws : List (List Key × V)}, RepT w F kvs ws → (∀ d, assoc k kvs = some d → ∃ v, valV ws k = some v ∧ Rep w F d v) ∧ (assoc k kvs = none → valV ws k = none)
  | [], _, h => by cases h; exact ⟨fun d e => (by cases e), fun _ => rfl⟩
  | (j, d) :: r, _, h => by
    obtain ⟨v, q, rfl, h1, h2⟩ := h
    obtain ⟨a1, a2⟩ := assoc_T (k := k) h2
    by_cases e : j = k
    · refine ⟨fun d' q' => ?_, fun q' => ?_⟩
      · rw [assoc, if_pos e] at q'
        cases q'
        exact ⟨v, valV_pos e, h1⟩
      · rw [assoc, if_pos e] at q'
        cases q'
    · refine ⟨fun d' q' => ?_, fun q' => ?_⟩
      · rw [assoc, if_neg e] at q'
        rw [valV_neg e]
        exact a1 d' q'
      · rw [assoc, if_neg e] at q'
        rw [valV_neg e]
        exact a2 q'
theorem assoc_Sk {k : Key} {s : Sh} : ∀ {kvs : List (Key × D)} {ws : List (Key × V)} {fp : List Addr}, RepSk w F B H kvs s ws fp → (∀ d, assoc k kvs = some d → ∃ v fq, (∀ a ∈ fq, a ∈ fp) ∧ valV ws k = some v ∧ RepS w F B H d s v fq)
  | [], _, _, h => fun d e => by cases e
  | (j, d) :: r, _, _, h => by
    obtain ⟨v, q, f1, f2, rfl, rfl, h1, h2⟩ := h
    intro d' q'
    by_cases e : j = k
    · rw [assoc, if_pos e] at q'
      cases q'
      exact ⟨v, f1, fun a ha => List.mem_append_left _ ha, valV_pos e, h1⟩
    · rw [assoc, if_neg e] at q'
      rw [valV_neg e]
      obtain ⟨v', fq, a1, a2, a3⟩ := assoc_Sk (k := k) h2 d' q'
      exact ⟨v', fq, fun a ha => List.mem_append_right _ (a1 a ha), a2, a3⟩
theorem assoc_St {k : List Key} {s : Sh} : ∀ {kvs : List (List Key × D)} {ws : List (List Key × V)} {fp : List Addr}, RepSt w F B H kvs s ws fp → (∀ d, assoc k kvs = some d → ∃ v fq, (∀ a ∈ fq, a ∈ fp) ∧ valV ws k = some v ∧ RepS w F B H d s v fq)
  | [], _, _, h => fun d e => by cases e
  | (j, d) :: r, _, _, h => by
    obtain ⟨v, q, f1, f2, rfl, rfl, h1, h2⟩ := h
    intro d' q'
    by_cases e : j = k
    · rw [assoc, if_pos e] at q'
      cases q'
      exact ⟨v, f1, fun a ha => List.mem_append_left _ ha, valV_pos e, h1⟩
    · rw [assoc, if_neg e] at q'
      rw [valV_neg e]
      obtain ⟨v', fq, a1, a2, a3⟩ := assoc_St (k := k) h2 d' q'
      exact ⟨v', fq, fun a ha => List.mem_append_right _ (a1 a ha), a2, a3⟩
theorem RepSs.get {s : Sh} : ∀ {ds : List D} {vs : List V} {fp : List Addr} {i : Nat} {d : D}, RepSs w F B H ds s vs fp → ds[i]? = some d → ∃ v fq, (∀ a ∈ fq, a ∈ fp) ∧ vs[i]? = some v ∧ RepS w F B H d s v fq
  | [], _, _, _, _, h, e => by simp at e
  | d :: ds, _, _, 0, _, h, e => by
    obtain ⟨v, r, f1, f2, rfl, rfl, e2, e3⟩ := h
    simp at e
    subst e
    exact ⟨v, f1, fun a ha => List.mem_append_left _ ha, rfl, e2⟩
  | d :: ds, _, _, i + 1, _, h, e => by
    obtain ⟨v, r, f1, f2, rfl, rfl, e2, e3⟩ := h
    obtain ⟨u, fq, q0, q1, q2⟩ := RepSs.get (i := i) e3 (by simpa using e)
    exact ⟨u, fq, fun a ha => List.mem_append_right _ (q0 a ha), by simpa using q1, q2⟩
theorem RepSs.length {s : Sh} : ∀ {ds : List D} {vs : List V} {fp : List Addr}, RepSs w F B H ds s vs fp → vs.length = ds.length
  | [], _, _, h => by rw [h.1]; rfl
  | d :: ds, _, _, h => by
    obtain ⟨v, r, f1, f2, rfl, rfl, e2, e3⟩ := h
    rw [List.length_cons, List.length_cons, RepSs.length e3]
theorem RepSu.get : ∀ {ds : List D} {ss : List Sh} {vs : List V} {fp : List Addr} {i : Nat} {d : D} {s : Sh}, RepSu w F B H ds ss vs fp → ds[i]? = some d → ss[i]? = some s → ∃ v fq, (∀ a ∈ fq, a ∈ fp) ∧ vs[i]? = some v ∧ RepS w F B H d s v fq
  | [], [], _, _, _, _, _, h, e, _ => by simp at e
  | [], _ :: _, _, _, _, _, _, h, _, _ => False.elim h
  | _ :: _, [], _, _, _, _, _, h, _, _ => False.elim h
  | d :: ds, s :: ss, _, _, 0, _, _, h, e, e' => by
    obtain ⟨v, r, f1, f2, rfl, rfl, e2, e3⟩ := h
    simp at e e'
    subst e e'
    exact ⟨v, f1, fun a ha => List.mem_append_left _ ha, rfl, e2⟩
  | d :: ds, s :: ss, _, _, i + 1, _, _, h, e, e' => by
    obtain ⟨v, r, f1, f2, rfl, rfl, e2, e3⟩ := h
    obtain ⟨u, fq, q0, q1, q2⟩ := RepSu.get (i := i) e3 (by simpa using e) (by simpa using e')
    exact ⟨u, fq, fun a ha => List.mem_append_right _ (q0 a ha), by simpa using q1, q2⟩
theorem RepSu.length : ∀ {ds : List D} {ss : List Sh} {vs : List V} {fp : List Addr}, RepSu w F B H ds ss vs fp → vs.length = ds.length
  | [], [], _, _, h => by rw [h.1]; rfl
  | [], _ :: _, _, _, h => False.elim h
  | _ :: _, [], _, _, h => False.elim h
  | d :: ds, s :: ss, _, _, h => by
    obtain ⟨v, r, f1, f2, rfl, rfl, e2, e3⟩ := h
    rw [List.length_cons, List.length_cons, RepSu.length e3]
/-! ### an item -/
def rIxDD : R2 := fun x y H Q => ∃ a v, x = .ref a ∧ DGet H a y (some v) ∧ Q v H
theorem ix_dict {X : Cx} (hu : X.A.units + 1 < cLine) : IxR X rIxDD := by
  intro value slice pins s σ H x y v u Q I rx ry h hs
  obtain ⟨a, v0, rfl, g, q⟩ := h
  obtain rfl : v = Value.ref a := rx
  exact PyProof.Rows.tail_any (dict_typeIs I g) PySem.F.slot_dict_getitem.lookup (d_getItem hu I g ry fun w' s3 I3 rw' => ⟨v0, H, I3, rw', q⟩) hs
def rIxA (K : PySem.W.Frag) : R2 := fun x y H Q => rIx K x y H Q ∨ rIxDD x y H Q
theorem ix_any {X : Cx} (hu : X.A.units + 1 < cLine) : IxR X (rIxA X.K) := ix_seq.or (ix_dict hu)
theorem atI_len {α β : Type} {xs : List α} {ys : List β} (h : ys.length = xs.length) {i : Int} {a : α} (e : L2.atI xs i = some a) : ∃ j : Nat, xs[j]? = some a ∧ L2.atI ys i = ys[j]? := by
  unfold L2.atI at e ⊢
  rw [h]
  obtain ⟨j, e1, e2⟩ := Option.bind_eq_some_iff.mp e
  rw [e1]
  exact ⟨j, e2, rfl⟩
/-- reading an item -/
def Reads1 (w : Wd) (H : Hp) (v : V) (k : D) (u : V) : Prop := ∀ y Q, Rep w H k y → Q u H → rIxA w.K v y H Q
theorem item_ok {s t : Sh} {d e k : D} {v : V} {fp : List Addr} (eh : Ex F H) (eb : Ex B H) (r : RepS w F B H d s v fp) (he : itemOf (s, d) k = some (t, e)) :
    ∃ u fq, (∀ a ∈ fq, a ∈ fp) ∧ RepS w F B H e t u fq ∧ Reads1 w H v k u := by
  cases d with
  | lst ds =>
    cases k with
    | int i =>
      have fin : ∀ {a vs u fq}, v = .ref a → H a = some (.lst vs) → L2.atI vs i = some u → (∀ a ∈ fq, a ∈ fp) → RepS w F B H e t u fq → ∃ u fq, (∀ a ∈ fq, a ∈ fp) ∧ RepS w F B H e t u fq ∧ Reads1 w H v (.int i) u :=
        fun {a vs u fq} h1 h2 h3 h4 h5 => ⟨u, fq, h4, h5, fun y Q hy q => .inl (.inl ⟨a, vs, i, u, h1, hy, SqL.of h2, h3, q⟩)⟩
      cases s with
      | frz =>
        obtain ⟨d', q1, q2⟩ := Option.map_eq_some_iff.mp (show (atD ds i).map (fun d => (Sh.frz, d)) = some (t, e) from he)
        cases q2
        obtain ⟨a, vs, e1, e2, e3⟩ := (RepS_frz.mp r).1
        obtain ⟨j, p1, p2⟩ := atI_len (Reps.length e3) q1
        obtain ⟨u, p3, p4⟩ := e3.get p1
        exact fin e1 (eh _ _ e2) (p2.trans p3) (fun a ha => by cases ha) (RepS_frz.mpr ⟨p4, rfl⟩)
      | bor =>
        obtain ⟨d', q1, q2⟩ := Option.map_eq_some_iff.mp (show (atD ds i).map (fun d => (Sh.bor, d)) = some (t, e) from he)
        cases q2
        obtain ⟨a, vs, e1, e2, e3⟩ := (RepS_bor.mp r).1
        obtain ⟨j, p1, p2⟩ := atI_len (Reps.length e3) q1
        obtain ⟨u, p3, p4⟩ := e3.get p1
        exact fin e1 (eb _ _ e2) (p2.trans p3) (fun a ha => by cases ha) (RepS_bor.mpr ⟨p4, rfl⟩)
      | lst s' =>
        obtain ⟨d', q1, q2⟩ := Option.map_eq_some_iff.mp (show (atD ds i).map (fun d => (s', d)) = some (t, e) from he)
        cases q2
        obtain ⟨a, vs, fq, e1, rfl, e3, e4⟩ := r
        obtain ⟨j, p1, p2⟩ := atI_len (RepSs.length e4) q1
        obtain ⟨u, gq, p0, p3, p4⟩ := e4.get p1
        exact fin e1 e3 (p2.trans p3) (fun a ha => List.mem_cons_of_mem _ (p0 a ha)) p4
      | _ => cases he
    | _ => cases he
  | tup ds =>
    cases k with
    | int i =>
      have fin : ∀ {a vs u fq}, v = .ref a → H a = some (.tup vs) → L2.atI vs i = some u → (∀ a ∈ fq, a ∈ fp) → RepS w F B H e t u fq → ∃ u fq, (∀ a ∈ fq, a ∈ fp) ∧ RepS w F B H e t u fq ∧ Reads1 w H v (.int i) u :=
        fun {a vs u fq} h1 h2 h3 h4 h5 => ⟨u, fq, h4, h5, fun y Q hy q => .inl (.inr (.inl ⟨a, vs, i, u, h1, hy, SqT.of h2, h3, q⟩))⟩
      cases s with
      | frz =>
        obtain ⟨d', q1, q2⟩ := Option.map_eq_some_iff.mp (show (atD ds i).map (fun d => (Sh.frz, d)) = some (t, e) from he)
        cases q2
        obtain ⟨a, vs, e1, e2, e3⟩ := (RepS_frz.mp r).1
        obtain ⟨j, p1, p2⟩ := atI_len (Reps.length e3) q1
        obtain ⟨u, p3, p4⟩ := e3.get p1
        exact fin e1 (eh _ _ e2) (p2.trans p3) (fun a ha => by cases ha) (RepS_frz.mpr ⟨p4, rfl⟩)
      | bor =>
        obtain ⟨d', q1, q2⟩ := Option.map_eq_some_iff.mp (show (atD ds i).map (fun d => (Sh.bor, d)) = some (t, e) from he)
        cases q2
        obtain ⟨a, vs, e1, e2, e3⟩ := (RepS_bor.mp r).1
        obtain ⟨j, p1, p2⟩ := atI_len (Reps.length e3) q1
        obtain ⟨u, p3, p4⟩ := e3.get p1
        exact fin e1 (eb _ _ e2) (p2.trans p3) (fun a ha => by cases ha) (RepS_bor.mpr ⟨p4, rfl⟩)
      | tup ss =>
        obtain ⟨j, q1, q2⟩ := Option.bind_eq_some_iff.mp (show ((ixN ds.length i).bind fun j => match ss[j]?, ds[j]? with | some t, some d => some (t, d) | _, _ => none) = some (t, e) from he)
        obtain ⟨a, vs, e1, e3, e4⟩ := r
        split at q2
        · rename_i t' d' z1 z2
          cases q2
          obtain ⟨u, gq, p0, p3, p4⟩ := e4.get z2 z1
          refine fin e1 e3 ?_ p0 p4
          unfold L2.atI
          rw [RepSu.length e4]
          have q1' : L2.ixN ds.length i = some j := q1
          rw [q1']
          exact p3
        · cases q2
      | _ => cases he
    | _ => cases he
  | str z =>
    cases k with
    | int i =>
      have he' : (if z.length ≤ sizeLine then (L2.atI z.cps.toList i).map fun c => (Sh.frz, D.str ⟨#[c]⟩) else none) = some (t, e) := by cases s <;> exact he
      have hv : v = .str z := RepS.scalar (F' := F) rfl r
      split at he'
      · rename_i hz
        obtain ⟨c, q1, q2⟩ := Option.map_eq_some_iff.mp he'
        cases q2
        exact ⟨.str ⟨#[c]⟩, [], fun a ha => (by cases ha), RepS_frz.mpr ⟨rfl, rfl⟩, fun y Q hy q => .inl (.inr (.inr ⟨z, i, c, hv, hy, hz, q1, q⟩))⟩
      · cases he'
    | _ => cases s <;> cases he
  | dic kvs =>
    have fin : ∀ {a ws u fq key}, v = .ref a → Rd H a (.dK ws) → keyOf k = some key → valV ws key = some u → (∀ a ∈ fq, a ∈ fp) → RepS w F B H e t u fq → ∃ u fq, (∀ a ∈ fq, a ∈ fp) ∧ RepS w F B H e t u fq ∧ Reads1 w H v k u :=
      fun {a ws u fq key} h1 h2 h0 h3 h4 h5 => ⟨u, fq, h4, h5, fun y Q hy q => .inr ⟨a, u, h1, .inl ⟨ws, key, h2, keyOf_v hy h0, h3.symm⟩, q⟩⟩
    cases s with
    | frz =>
      obtain ⟨d', q1, q2⟩ := Option.map_eq_some_iff.mp (show ((keyOf k).bind fun k => assoc k kvs).map (fun d => (Sh.frz, d)) = some (t, e) from he)
      cases q2
      obtain ⟨key, q3, q4⟩ := Option.bind_eq_some_iff.mp q1
      obtain ⟨a, ws, e1, e2, e3⟩ := (RepS_frz.mp r).1
      obtain ⟨u, p1, p2⟩ := (assoc_K e3).1 _ q4
      exact fin e1 (Rd.of (eh _ _ e2)) q3 p1 (fun a ha => by cases ha) (RepS_frz.mpr ⟨p2, rfl⟩)
    | bor =>
      obtain ⟨d', q1, q2⟩ := Option.map_eq_some_iff.mp (show ((keyOf k).bind fun k => assoc k kvs).map (fun d => (Sh.bor, d)) = some (t, e) from he)
      cases q2
      obtain ⟨key, q3, q4⟩ := Option.bind_eq_some_iff.mp q1
      obtain ⟨a, ws, e1, e2, e3⟩ := (RepS_bor.mp r).1
      obtain ⟨u, p1, p2⟩ := (assoc_K e3).1 _ q4
      exact fin e1 (Rd.of (eb _ _ e2)) q3 p1 (fun a ha => by cases ha) (RepS_bor.mpr ⟨p2, rfl⟩)
    | dic s' =>
      obtain ⟨d', q1, q2⟩ := Option.map_eq_some_iff.mp (show ((keyOf k).bind fun k => assoc k kvs).map (fun d => (s', d)) = some (t, e) from he)
      cases q2
      obtain ⟨key, q3, q4⟩ := Option.bind_eq_some_iff.mp q1
      obtain ⟨a, ws, fq, e1, rfl, e3, e4⟩ := r
      obtain ⟨u, gq, p0, p1, p2⟩ := assoc_Sk e4 _ q4
      exact fin e1 (Rd.of e3) q3 p1 (fun a ha => List.mem_cons_of_mem _ (p0 a ha)) p2
    | _ => cases he
  | dit kvs =>
    have fin : ∀ {a ws u fq key}, v = .ref a → Rd H a (.dT ws) → tkeyOf k = some key → valV ws key = some u → (∀ a ∈ fq, a ∈ fp) → RepS w F B H e t u fq → ∃ u fq, (∀ a ∈ fq, a ∈ fp) ∧ RepS w F B H e t u fq ∧ Reads1 w H v k u :=
      fun {a ws u fq key} h1 h2 h0 h3 h4 h5 => ⟨u, fq, h4, h5, fun y Q hy q => by
        obtain ⟨b, hy1, hy2⟩ := tkeyOf_v hy h0
        exact .inr ⟨a, u, h1, .inr ⟨ws, key, b, h2, hy1, hy2, h3.symm⟩, q⟩⟩
    cases s with
    | frz =>
      obtain ⟨d', q1, q2⟩ := Option.map_eq_some_iff.mp (show ((tkeyOf k).bind fun k => assoc k kvs).map (fun d => (Sh.frz, d)) = some (t, e) from he)
      cases q2
      obtain ⟨key, q3, q4⟩ := Option.bind_eq_some_iff.mp q1
      obtain ⟨a, ws, e1, e2, e3⟩ := (RepS_frz.mp r).1
      obtain ⟨u, p1, p2⟩ := (assoc_T e3).1 _ q4
      exact fin e1 (Rd.of (eh _ _ e2)) q3 p1 (fun a ha => by cases ha) (RepS_frz.mpr ⟨p2, rfl⟩)
    | bor =>
      obtain ⟨d', q1, q2⟩ := Option.map_eq_some_iff.mp (show ((tkeyOf k).bind fun k => assoc k kvs).map (fun d => (Sh.bor, d)) = some (t, e) from he)
      cases q2
      obtain ⟨key, q3, q4⟩ := Option.bind_eq_some_iff.mp q1
      obtain ⟨a, ws, e1, e2, e3⟩ := (RepS_bor.mp r).1
      obtain ⟨u, p1, p2⟩ := (assoc_T e3).1 _ q4
      exact fin e1 (Rd.of (eb _ _ e2)) q3 p1 (fun a ha => by cases ha) (RepS_bor.mpr ⟨p2, rfl⟩)
    | dic s' =>
      obtain ⟨d', q1, q2⟩ := Option.map_eq_some_iff.mp (show ((tkeyOf k).bind fun k => assoc k kvs).map (fun d => (s', d)) = some (t, e) from he)
      cases q2
      obtain ⟨key, q3, q4⟩ := Option.bind_eq_some_iff.mp q1
      obtain ⟨a, ws, fq, e1, rfl, e3, e4⟩ := r
      obtain ⟨u, gq, p0, p1, p2⟩ := assoc_St e4 _ q4
      exact fin e1 (Rd.of e3) q3 p1 (fun a ha => List.mem_cons_of_mem _ (p0 a ha)) p2
    | _ => cases he
  | _ => cases s <;> cases he
theorem ov_ix : OpV w .ix (Rtwo (rIxA w.K)) := by
  intro xs res vs F B H Q hs hr eh eb k
  obtain ⟨x, ⟨t, b⟩, rfl⟩ := sem_two (fun _ => rfl) (fun _ _ _ => rfl) hs
  · obtain ⟨v, y, rfl, ⟨fp, r⟩, ⟨fp', ry⟩⟩ := repA2 hr
    obtain ⟨s, d⟩ := x
    obtain ⟨⟨t', e⟩, q1, q2⟩ := Option.bind_eq_some_iff.mp (show ((itemOf (s, d) b).bind share) = some res from hs)
    obtain ⟨u, fq, h1, h2, h3⟩ := item_ok eh eb r q1
    obtain ⟨rs, rd⟩ := res
    obtain ⟨rfl, h4, _⟩ := share_ok q2 h2
    exact ⟨v, y, rfl, h3 y Q (RepS.all eh eb _ _ _ _ ry) (k u H F [] (ex_refl H) (ex_refl F) eh (fun _ _ e => .inl e) h4 (fun _ h => by cases h) List.nodup_nil)⟩
end DI
/-! DI6c: the other operations. -/
namespace DI
open PySem L2
variable {w : Wd} {F F' B H H' : Hp} {Q : VK}
theorem ite_some {α : Type} {c : Bool} {a : Option α} {b : α} (h : (if c = true then a else none) = some b) : c = true ∧ a = some b := by
  cases c with
  | true => exact ⟨rfl, h⟩
  | false => cases h
theorem iteP_some {α : Type} {c : Prop} [Decidable c] {a : Option α} {b : α} (h : (if c then a else none) = some b) : c ∧ a = some b := by
  by_cases hc : c
  · rw [if_pos hc] at h
    exact ⟨hc, h⟩
  · rw [if_neg hc] at h
    cases h
theorem ov_add : OpV w .add (Rtwo fun x y H Q => (rI0 fun i j => .int (i + j)) x y H Q ∨ (∃ i j, x = .str i ∧ y = .str j ∧ i.length + j.length ≤ sizeLine ∧ Q (.str (i ++ j)) H) ∨ rCat x y H Q ∨ rCatT w.K x y H Q) := by
  intro xs res vs F B H Q hs hr eh eb k
  obtain ⟨⟨s, a⟩, ⟨t, b⟩, rfl⟩ := sem_two (fun _ => rfl) (fun _ _ _ => rfl) hs
  obtain ⟨x, y, rfl, h1, h2⟩ := repA2 hr
  cases a <;> cases b <;> first | (cases hs; done) | skip
  · cases hs
    rw [v_int h1, v_int h2]
    exact ⟨_, _, rfl, .inl ⟨_, _, rfl, rfl, Cont.sc k eh rfl⟩⟩
  · obtain ⟨hz, hs'⟩ := iteP_some hs
    cases hs'
    rw [v_str h1, v_str h2]
    exact ⟨_, _, rfl, .inr (.inl ⟨_, _, rfl, rfl, hz, Cont.sc k eh rfl⟩)⟩
  · rename_i as bs
    obtain ⟨ds, q1, hs'⟩ := Option.bind_eq_some_iff.mp (show ((kids (s, .tup as)).bind fun as => (kids (t, .tup bs)).bind fun bs => if (decide (as.length + bs.length ≤ sizeLine) && !as.isEmpty && !bs.isEmpty) = true then some (Sh.frz, D.tup (as ++ bs)) else none) = some res from hs)
    obtain ⟨es, q2, hs'⟩ := Option.bind_eq_some_iff.mp hs'
    obtain ⟨hc, hs'⟩ := ite_some hs'
    cases hs'
    obtain ⟨a, us, rfl, r1, m1, rfl⟩ := kids_tup eh eb h1 q1
    obtain ⟨b, ws, rfl, r2, m2, rfl⟩ := kids_tup eh eb h2 q2
    simp only [Bool.and_eq_true, decide_eq_true_eq, Bool.not_eq_true', List.isEmpty_eq_false_iff] at hc
    obtain ⟨⟨z1, z2⟩, z3⟩ := hc
    have l1 := r1.length
    have l2 := r2.length
    have n1 : us ≠ [] := fun e => by
      rw [e] at l1
      exact z2 (List.length_eq_zero_iff.mp l1.symm)
    have n2 : ws ≠ [] := fun e => by
      rw [e] at l2
      exact z3 (List.length_eq_zero_iff.mp l2.symm)
    exact ⟨_, _, rfl, .inr (.inr (.inr ⟨a, b, us, ws, rfl, rfl, SqT.of m1, SqT.of m2, n1, by omega, fun e => absurd e n2, fun _ p hp => Cont.tup k eh (r1.append r2) hp⟩))⟩
  · rename_i as bs
    obtain ⟨ds, q1, hs'⟩ := Option.bind_eq_some_iff.mp (show ((kids (s, .lst as)).bind fun as => (kids (t, .lst bs)).bind fun bs => if as.length + bs.length ≤ sizeLine then lit (as ++ bs) else none) = some res from hs)
    obtain ⟨es, q2, hs'⟩ := Option.bind_eq_some_iff.mp hs'
    obtain ⟨hc, hs'⟩ := iteP_some hs'
    cases hs'
    obtain ⟨a, us, rfl, r1, m1, rfl⟩ := kids_lst eh eb h1 q1
    obtain ⟨b, ws, rfl, r2, m2, rfl⟩ := kids_lst eh eb h2 q2
    have l1 := r1.length
    have l2 := r2.length
    exact ⟨_, _, rfl, .inr (.inr (.inl ⟨a, b, us, ws, rfl, rfl, m1, m2, by omega, fun p hp => Cont.lit k eh (r1.append r2) hp⟩))⟩
theorem small_ok {i j : Int} (h : (small i || small j) = true) : CMul i j := by
  unfold small at h
  simp only [Bool.or_eq_true, Bool.and_eq_true, decide_eq_true_eq] at h
  exact h
def rRepS : R2 := fun x y H Q => ∃ z k, x = .str z ∧ y = .int k ∧ -(2 ^ 63) ≤ k ∧ k < 2 ^ 63 ∧ z.length * k.toNat ≤ sizeLine ∧ Q (.str (strRep k z)) H
theorem fold_size (z : Array Nat) : ∀ (n : Nat) (a : Array Nat), ((List.replicate n z).foldl (· ++ ·) a).size = a.size + z.size * n
  | 0, a => by simp
  | n + 1, a => by
    rw [List.replicate_succ, List.foldl_cons, fold_size z n, Array.size_append, Nat.mul_succ]
    omega
theorem rep_size (z : Str) (n : Nat) : (⟨(List.replicate n z.cps).foldl (· ++ ·) #[]⟩ : Str).length = z.length * n := by
  show ((List.replicate n z.cps).foldl (· ++ ·) #[]).size = _
  rw [fold_size]
  simp [Str.length]
theorem op_repS {X : Cx} : OpR X (binaryOp .Mult) rRepS := by
  intro pins s σ H x y v u Q I rx ry h
  obtain ⟨z, k, rfl, rfl, h1, h2, hz, q⟩ := h
  obtain ⟨t, rfl⟩ := rx
  obtain ⟨t', rfl⟩ := ry
  have hs := sizeLine_eq
  have hr : (decide (k < -(2 ^ 63 : Int)) || decide (k ≥ 2 ^ 63)) = false := by
    rw [decide_eq_false (by omega), decide_eq_false (by omega)] <;> rfl
  refine PySem.P.mul_str hr (fun h3 _ h4 => ?_) (fun _ _ => ?_) ?_
  · have e1 : (z.length : Int) * k ≤ 16777216 := by
      have e2 : ((z.length * k.toNat : Nat) : Int) ≤ 16777216 := by
        rw [hs] at hz
        exact Int.ofNat_le.mpr hz
      rw [Int.natCast_mul, Int.toNat_of_nonneg (by omega)] at e2
      exact e2
    have hk : 0 < k := by omega
    have e3 : (z.length : Int) ≤ (2 ^ 63 - 1) / k := by
      rw [Int.le_ediv_iff_mul_le hk]
      omega
    omega
  · exact decide_eq_false (show ¬ z.length * k.toNat > sizeLine by omega)
  · unfold strRep at q
    by_cases h5 : k < 1
    · rw [if_pos h5] at q ⊢
      exact ⟨by decide, ⟨.str _, H, I.tok _, ⟨_, rfl⟩, q⟩⟩
    · rw [if_neg h5] at q ⊢
      by_cases h6 : (k == 1 || z.length == 0) = true
      · rw [if_pos h6] at q ⊢
        exact ⟨.str _, H, I, ⟨_, rfl⟩, q⟩
      · rw [if_neg h6] at q ⊢
        refine ⟨?_, ⟨.str _, H, I.tok _, ⟨_, rfl⟩, q⟩⟩
        refine Nat.le_trans (Nat.le_of_eq ?_) hz
        rw [rep_size]
theorem ov_mul : OpV w .mul (Rtwo fun x y H Q => (rI CMul fun i j => .int (i * j)) x y H Q ∨ rRep x y H Q ∨ rRepS x y H Q) := by
  intro xs res vs F B H Q hs hr eh eb k
  obtain ⟨⟨s, a⟩, ⟨t, b⟩, rfl⟩ := sem_two (fun _ => rfl) (fun _ _ _ => rfl) hs
  obtain ⟨x, y, rfl, h1, h2⟩ := repA2 hr
  cases a <;> cases b <;> first | (cases hs; done) | skip
  · obtain ⟨hz, hs'⟩ := ite_some hs
    cases hs'
    rw [v_int h1, v_int h2]
    exact ⟨_, _, rfl, .inl ⟨_, _, rfl, rfl, small_ok hz, Cont.sc k eh rfl⟩⟩
  · obtain ⟨hz, hs'⟩ := ite_some hs
    cases hs'
    simp only [Bool.and_eq_true, decide_eq_true_eq] at hz
    rw [v_str h1, v_int h2]
    exact ⟨_, _, rfl, .inr (.inr ⟨_, _, rfl, rfl, hz.1.1, hz.1.2, hz.2, Cont.sc k eh rfl⟩)⟩
  · rename_i as i
    obtain ⟨ds, q1, hs'⟩ := Option.bind_eq_some_iff.mp (show ((kids (s, .lst as)).bind fun as => if (decide (-(2 ^ 63) ≤ i) && decide (i < 2 ^ 63) && decide (as.length * i.toNat ≤ sizeLine)) = true then lit (List.replicate i.toNat as).flatten else none) = some res from hs)
    obtain ⟨hz, hs'⟩ := ite_some hs'
    cases hs'
    simp only [Bool.and_eq_true, decide_eq_true_eq] at hz
    obtain ⟨a, us, rfl, r1, m1, rfl⟩ := kids_lst eh eb h1 q1
    have l1 := r1.length
    rw [v_int h2]
    exact ⟨_, _, rfl, .inr (.inl ⟨a, i, us, rfl, rfl, m1, hz.1.1, hz.1.2, by rw [l1]; exact hz.2, fun p hp => Cont.lit k eh (r1.rep _) hp⟩)⟩
/-! ### more readings of lists -/
theorem strs_v : ∀ {ds : List D} {zs : List Str} {vs : List V}, Reps w H ds vs → strsOf ds = some zs → vs = zs.map V.str
  | [], _, _, h, e => by cases e; cases h; rfl
  | .str z :: ds, _, _, h, e => by
    obtain ⟨v, r, rfl, h1, h2⟩ := h
    obtain ⟨t, q, rfl⟩ := Option.map_eq_some_iff.mp (show (strsOf ds).map (fun t => z :: t) = some _ from e)
    rw [strs_v h2 q, show v = V.str z from h1]
    rfl
  | .non :: _, _, _, _, e => by cases e
  | .bl _ :: _, _, _, _, e => by cases e
  | .int _ :: _, _, _, _, e => by cases e
  | .tup _ :: _, _, _, _, e => by cases e
  | .lst _ :: _, _, _, _, e => by cases e
  | .dic _ :: _, _, _, _, e => by cases e
  | .dit _ :: _, _, _, _, e => by cases e
  | .obj _ _ :: _, _, _, _, e => by cases e
  | .scr _ :: _, _, _, _, e => by cases e
theorem ints_v : ∀ {ds : List D} {zs : List Int} {vs : List V}, Reps w H ds vs → intsOf ds = some zs → vs = zs.map V.int
  | [], _, _, h, e => by cases e; cases h; rfl
  | .int z :: ds, _, _, h, e => by
    obtain ⟨v, r, rfl, h1, h2⟩ := h
    obtain ⟨t, q, rfl⟩ := Option.map_eq_some_iff.mp (show (intsOf ds).map (fun t => z :: t) = some _ from e)
    rw [ints_v h2 q, show v = V.int z from h1]
    rfl
  | .non :: _, _, _, _, e => by cases e
  | .bl _ :: _, _, _, _, e => by cases e
  | .str _ :: _, _, _, _, e => by cases e
  | .tup _ :: _, _, _, _, e => by cases e
  | .lst _ :: _, _, _, _, e => by cases e
  | .dic _ :: _, _, _, _, e => by cases e
  | .dit _ :: _, _, _, _, e => by cases e
  | .obj _ _ :: _, _, _, _, e => by cases e
  | .scr _ :: _, _, _, _, e => by cases e
theorem bls_v : ∀ {ds : List D} {zs : List Bool} {vs : List V}, Reps w H ds vs → blsOf ds = some zs → vs = zs.map V.bl
  | [], _, _, h, e => by cases e; cases h; rfl
  | .bl z :: ds, _, _, h, e => by
    obtain ⟨v, r, rfl, h1, h2⟩ := h
    obtain ⟨t, q, rfl⟩ := Option.map_eq_some_iff.mp (show (blsOf ds).map (fun t => z :: t) = some _ from e)
    rw [bls_v h2 q, show v = V.bl z from h1]
    rfl
  | .non :: _, _, _, _, e => by cases e
  | .int _ :: _, _, _, _, e => by cases e
  | .str _ :: _, _, _, _, e => by cases e
  | .tup _ :: _, _, _, _, e => by cases e
  | .lst _ :: _, _, _, _, e => by cases e
  | .dic _ :: _, _, _, _, e => by cases e
  | .dit _ :: _, _, _, _, e => by cases e
  | .obj _ _ :: _, _, _, _, e => by cases e
  | .scr _ :: _, _, _, _, e => by cases e
/-- a list as it lies in the whole heap -/
theorem v_lst {s : Sh} {ds : List D} {v : V} (eh : Ex F H) (eb : Ex B H) (h : ∃ fp, RepS w F B H (.lst ds) s v fp) : ∃ a vs, v = .ref a ∧ H a = some (.lst vs) ∧ Reps w H ds vs := h.elim fun fp r => RepS.all eh eb _ s v fp r
theorem v_tup {s : Sh} {ds : List D} {v : V} (eh : Ex F H) (eb : Ex B H) (h : ∃ fp, RepS w F B H (.tup ds) s v fp) : ∃ a vs, v = .ref a ∧ H a = some (.tup vs) ∧ Reps w H ds vs := h.elim fun fp r => RepS.all eh eb _ s v fp r
theorem v_dic {s : Sh} {ds : List (Key × D)} {v : V} (eh : Ex F H) (eb : Ex B H) (h : ∃ fp, RepS w F B H (.dic ds) s v fp) : ∃ a vs, v = .ref a ∧ H a = some (.dK vs) ∧ RepK w H ds vs := h.elim fun fp r => RepS.all eh eb _ s v fp r
theorem RepK.length : ∀ {ds : List (Key × D)} {vs : List (Key × V)}, RepK w F ds vs → vs.length = ds.length
  | [], _, h => by cases h; rfl
  | d :: ds, _, h => by
    obtain ⟨v, r, rfl, e2, e3⟩ := h
    rw [List.length_cons, List.length_cons, RepK.length e3]
abbrev RLen (K : PySem.W.Frag) : List V → Hp → VK → Prop := fun xs H Q => (∃ x n, xs = [x] ∧ LenV K x H n ∧ Q (.int n) H) ∨ (∃ a kvs, xs = [V.ref a] ∧ H a = some (.dK kvs) ∧ Q (.int kvs.length) H)
theorem ov_len : OpV w .len (RLen w.K) := by
  intro xs res vs F B H Q hs hr eh eb k
  obtain ⟨⟨s, a⟩, rfl⟩ := sem_one (fun _ _ => rfl) (fun _ _ _ => rfl) hs
  obtain ⟨x, rfl, h1⟩ := repA1 hr
  have hs' : ((lenD a).bind fun n => sc (.int n)) = some res := hs
  obtain ⟨n, q1, q2⟩ := Option.bind_eq_some_iff.mp hs'
  cases q2
  have k' : Q (.int n) H := Cont.sc k eh rfl
  cases a with
  | str z =>
    obtain ⟨hz, q1⟩ := iteP_some q1
    cases q1
    rw [v_str h1]
    exact .inl ⟨_, _, rfl, ⟨hz, rfl⟩, k'⟩
  | lst ds =>
    cases q1
    obtain ⟨p, vs, rfl, e1, e2⟩ := v_lst eh eb h1
    exact .inl ⟨_, _, rfl, .inl ⟨vs, SqL.of e1, e2.length.symm⟩, k'⟩
  | tup ds =>
    cases q1
    obtain ⟨p, vs, rfl, e1, e2⟩ := v_tup eh eb h1
    exact .inl ⟨_, _, rfl, .inr ⟨vs, SqT.of e1, e2.length.symm⟩, k'⟩
  | dic ds =>
    cases q1
    obtain ⟨p, vs, rfl, e1, e2⟩ := v_dic eh eb h1
    refine .inr ⟨p, vs, rfl, e1, ?_⟩
    rw [e2.length]
    exact k'
  | _ => cases q1
theorem ov_abs : OpV w .abs (fun xs H Q => ∃ i, xs = [.int i] ∧ Q (.int (if i < 0 then -i else i)) H) := by
  intro xs res vs F B H Q hs hr eh eb k
  obtain ⟨⟨s, a⟩, rfl⟩ := sem_one (fun _ _ => rfl) (fun _ _ _ => rfl) hs
  obtain ⟨x, rfl, h1⟩ := repA1 hr
  cases a <;> first | (cases hs; done) | skip
  cases hs
  rw [v_int h1]
  exact ⟨_, rfl, Cont.sc k eh rfl⟩
theorem ov_int : OpV w .int (fun xs H Q => (∃ i, xs = [.int i] ∧ Q (.int i) H) ∨ ∃ k, xs = [.bl k] ∧ Q (.int (if k then 1 else 0)) H) := by
  intro xs res vs F B H Q hs hr eh eb k
  obtain ⟨⟨s, a⟩, rfl⟩ := sem_one (fun _ _ => rfl) (fun _ _ _ => rfl) hs
  obtain ⟨x, rfl, h1⟩ := repA1 hr
  cases a <;> first | (cases hs; done) | skip
  · cases hs
    rw [v_bl h1]
    exact .inr ⟨_, rfl, Cont.sc k eh rfl⟩
  · cases hs
    rw [v_int h1]
    exact .inl ⟨_, rfl, Cont.sc k eh rfl⟩
theorem ov_str : OpV w .str (fun xs H Q => ∃ i, xs = [.int i] ∧ i.natAbs.log2 < 1920 ∧ Q (.str (toString i)) H) := by
  intro xs res vs F B H Q hs hr eh eb k
  obtain ⟨⟨s, a⟩, rfl⟩ := sem_one (fun _ _ => rfl) (fun _ _ _ => rfl) hs
  obtain ⟨x, rfl, h1⟩ := repA1 hr
  cases a <;> first | (cases hs; done) | skip
  obtain ⟨hz, hs'⟩ := iteP_some hs
  cases hs'
  rw [v_int h1]
  exact ⟨_, rfl, hz, Cont.sc k eh rfl⟩
theorem ov_min2 : OpV w .min2 (fun xs H Q => ∃ i j, xs = [.int i, .int j] ∧ Q (.int (if j < i then j else i)) H) := by
  intro xs res vs F B H Q hs hr eh eb k
  obtain ⟨⟨s, a⟩, ⟨t, b⟩, rfl⟩ := sem_two (fun _ => rfl) (fun _ _ _ => rfl) hs
  obtain ⟨x, y, rfl, h1, h2⟩ := repA2 hr
  cases a <;> cases b <;> first | (cases hs; done) | skip
  cases hs
  rw [v_int h1, v_int h2]
  exact ⟨_, _, rfl, Cont.sc k eh rfl⟩
theorem ov_max2 : OpV w .max2 (fun xs H Q => ∃ i j, xs = [.int i, .int j] ∧ Q (.int (if j > i then j else i)) H) := by
  intro xs res vs F B H Q hs hr eh eb k
  obtain ⟨⟨s, a⟩, ⟨t, b⟩, rfl⟩ := sem_two (fun _ => rfl) (fun _ _ _ => rfl) hs
  obtain ⟨x, y, rfl, h1, h2⟩ := repA2 hr
  cases a <;> cases b <;> first | (cases hs; done) | skip
  cases hs
  rw [v_int h1, v_int h2]
  exact ⟨_, _, rfl, Cont.sc k eh rfl⟩
theorem ov_list : OpV w .list (fun xs H Q => ∃ p ys, xs = [.ref p] ∧ (SqL w.K H p ys ∨ SqT w.K H p ys) ∧ ∀ l, H l = none → Q (.ref l) (upd H l (.lst ys))) := by
  intro xs res vs F B H Q hs hr eh eb k
  obtain ⟨⟨s, a⟩, rfl⟩ := sem_one (fun _ _ => rfl) (fun _ _ _ => rfl) hs
  obtain ⟨x, rfl, h1⟩ := repA1 hr
  cases a <;> first | (cases hs; done) | skip
  · obtain ⟨ds, q1, hs'⟩ := Option.bind_eq_some_iff.mp (show (kids _).bind lit = some res from hs)
    cases hs'
    obtain ⟨a, us, rfl, r1, m1, rfl⟩ := kids_tup eh eb h1 q1
    exact ⟨a, us, rfl, .inr (SqT.of m1), fun l hl => Cont.lit k eh r1 hl⟩
  · obtain ⟨ds, q1, hs'⟩ := Option.bind_eq_some_iff.mp (show (kids _).bind lit = some res from hs)
    cases hs'
    obtain ⟨a, us, rfl, r1, m1, rfl⟩ := kids_lst eh eb h1 q1
    exact ⟨a, us, rfl, .inl (SqL.of m1), fun l hl => Cont.lit k eh r1 hl⟩
theorem ov_tuple : OpV w .tuple (fun xs H Q => ∃ p ys, xs = [.ref p] ∧ ((SqL w.K H p ys ∧ ∀ l, H l = none → Q (.ref l) (upd H l (.tup ys))) ∨ (SqT w.K H p ys ∧ Q (.ref p) H))) := by
  intro xs res vs F B H Q hs hr eh eb k
  obtain ⟨⟨s, a⟩, rfl⟩ := sem_one (fun _ _ => rfl) (fun _ _ _ => rfl) hs
  obtain ⟨x, rfl, h1⟩ := repA1 hr
  cases a <;> first | (cases hs; done) | skip
  obtain ⟨ds, q1, hs'⟩ := Option.bind_eq_some_iff.mp (show (kids _).bind (fun ds => some (Sh.frz, D.tup ds)) = some res from hs)
  cases hs'
  obtain ⟨a, us, rfl, r1, m1, rfl⟩ := kids_lst eh eb h1 q1
  exact ⟨a, us, rfl, .inl ⟨SqL.of m1, fun l hl => Cont.tup k eh r1 hl⟩⟩
theorem ov_sum : OpV w .sum (rSum w.K) := by
  intro xs res vs F B H Q hs hr eh eb k
  obtain ⟨⟨s, a⟩, rfl⟩ := sem_one (fun _ _ => rfl) (fun _ _ _ => rfl) hs
  obtain ⟨x, rfl, h1⟩ := repA1 hr
  cases a <;> first | (cases hs; done) | skip
  rename_i ds
  obtain ⟨zs, q1, hs'⟩ := Option.bind_eq_some_iff.mp (show (intsOf ds).bind (fun zs => sc (.int zs.sum)) = some res from hs)
  cases hs'
  obtain ⟨a, us, rfl, r1, r2⟩ := v_lst eh eb h1
  rw [ints_v r2 q1] at r1
  exact ⟨a, zs, rfl, SqL.of r1, Cont.sc k eh rfl⟩
theorem ov_all : OpV w .all (rAll w.K) := by
  intro xs res vs F B H Q hs hr eh eb k
  obtain ⟨⟨s, a⟩, rfl⟩ := sem_one (fun _ _ => rfl) (fun _ _ _ => rfl) hs
  obtain ⟨x, rfl, h1⟩ := repA1 hr
  cases a <;> first | (cases hs; done) | skip
  rename_i ds
  obtain ⟨zs, q1, hs'⟩ := Option.bind_eq_some_iff.mp (show (blsOf ds).bind (fun zs => sc (.bl (zs.all id))) = some res from hs)
  cases hs'
  obtain ⟨a, us, rfl, r1, r2⟩ := v_lst eh eb h1
  rw [bls_v r2 q1] at r1
  exact ⟨a, zs, rfl, SqL.of r1, Cont.sc k eh rfl⟩
theorem ov_any : OpV w .any (rAny w.K) := by
  intro xs res vs F B H Q hs hr eh eb k
  obtain ⟨⟨s, a⟩, rfl⟩ := sem_one (fun _ _ => rfl) (fun _ _ _ => rfl) hs
  obtain ⟨x, rfl, h1⟩ := repA1 hr
  cases a <;> first | (cases hs; done) | skip
  rename_i ds
  obtain ⟨zs, q1, hs'⟩ := Option.bind_eq_some_iff.mp (show (blsOf ds).bind (fun zs => sc (.bl (zs.any id))) = some res from hs)
  cases hs'
  obtain ⟨a, us, rfl, r1, r2⟩ := v_lst eh eb h1
  rw [bls_v r2 q1] at r1
  exact ⟨a, zs, rfl, SqL.of r1, Cont.sc k eh rfl⟩
theorem ov_join : OpV w .join (fun vs H Q => ∃ x xs, vs = x :: xs ∧ ∃ a p, ∃ ys : List Str, x = .str a ∧ xs = [.ref p] ∧ (SqL w.K H p (ys.map V.str) ∨ SqT w.K H p (ys.map V.str)) ∧ (ys.map (·.length)).sum + ys.length * a.length ≤ 16777216 ∧ Q (.str (PySem.Txt.join a ys)) H) := by
  intro xs res vs F B H Q hs hr eh eb k
  obtain ⟨⟨s, a⟩, ⟨t, b⟩, rfl⟩ := sem_two (fun _ => rfl) (fun _ _ _ => rfl) hs
  obtain ⟨x, y, rfl, h1, h2⟩ := repA2 hr
  cases a <;> cases b <;> first | (cases hs; done) | skip
  rename_i z ds
  obtain ⟨ys, q1, hs'⟩ := Option.bind_eq_some_iff.mp (show (strsOf ds).bind (fun ys => if (ys.map (·.length)).sum + ys.length * z.length ≤ 16777216 then sc (.str (PySem.Txt.join z ys)) else none) = some res from hs)
  obtain ⟨hz, hs'⟩ := iteP_some hs'
  cases hs'
  obtain ⟨a, us, rfl, r1, r2⟩ := v_lst eh eb h2
  rw [strs_v r2 q1] at r1
  rw [v_str h1]
  exact ⟨_, _, rfl, z, a, ys, rfl, rfl, .inl (SqL.of r1), hz, Cont.sc k eh rfl⟩
theorem reps_strs : ∀ ys : List Str, Reps w F (ys.map D.str) (ys.map V.str)
  | [] => rfl
  | y :: ys => ⟨.str y, _, rfl, rfl, reps_strs ys⟩
theorem reps_ints : ∀ ys : List Int, Reps w F (ys.map D.int) (ys.map V.int)
  | [] => rfl
  | y :: ys => ⟨.int y, _, rfl, rfl, reps_ints ys⟩
theorem ov_split : OpV w .split (fun vs H Q => ∃ x xs, vs = x :: xs ∧ ∃ a b, x = .str a ∧ xs = [.str b] ∧ (b.length == 0) = false ∧ a.length + 2 ≤ sizeLine ∧ rNewStrs (PySem.Txt.split a b) H Q) := by
  intro xs res vs F B H Q hs hr eh eb k
  obtain ⟨⟨s, a⟩, ⟨t, b⟩, rfl⟩ := sem_two (fun _ => rfl) (fun _ _ _ => rfl) hs
  obtain ⟨x, y, rfl, h1, h2⟩ := repA2 hr
  cases a <;> cases b <;> first | (cases hs; done) | skip
  obtain ⟨hz, hs'⟩ := ite_some hs
  cases hs'
  simp only [Bool.and_eq_true, decide_eq_true_eq] at hz
  rw [v_str h1, v_str h2]
  exact ⟨_, _, rfl, _, _, rfl, rfl, by simpa using hz.1, hz.2, fun p hp => Cont.lit k eh (reps_strs _) hp⟩
end DI
/-! DI6d: slices, places, texts of things, classes, order. -/
namespace DI
open PySem L2
variable {w : Wd} {F F' B H H' : Hp} {Q : VK}
/-! ### slices -/
theorem Reps.cut {ds : List D} {vs : List V} (h : Reps w F ds vs) (lo hi : Option Int) : Reps w F (cut ds lo hi) (cutV vs lo hi) := by
  have l := h.length
  unfold DI.cut cutV
  rw [l]
  exact (h.drop _).take _
abbrev rSl (K : PySem.W.Frag) : V → Option Int → Option Int → Hp → VK → Prop := fun x lo hi H Q => (rSlL K x lo hi H Q ∨ rSlS x lo hi H Q) ∨ rSlT K x lo hi H Q
theorem slr_all {X : Cx} : SlR X (rSl X.K) := (sl_list.or sl_str).or sl_tup
theorem slice_ok {s : Sh} {d : D} {v : V} {lo hi : Option Int} {res : SD} (eh : Ex F H) (eb : Ex B H) (h : ∃ fp, RepS w F B H d s v fp) (e : slice (s, d) lo hi = some res) (k : Cont w F B H res Q) : rSl w.K v lo hi H Q := by
  cases d with
  | str z =>
    obtain ⟨hz, e⟩ := iteP_some e
    cases e
    rw [v_str h]
    exact .inl (.inr ⟨_, rfl, hz, Cont.sc k eh rfl⟩)
  | lst ds =>
    obtain ⟨es, q1, e⟩ := Option.bind_eq_some_iff.mp (show (kids (s, .lst ds)).bind (fun ds => lit (cut ds lo hi)) = some res from e)
    cases e
    obtain ⟨a, us, rfl, r1, m1, rfl⟩ := kids_lst eh eb h q1
    exact .inl (.inl ⟨a, us, rfl, SqL.of m1, fun p hp => Cont.lit k eh (r1.cut lo hi) hp⟩)
  | tup ds =>
    have e' : (if (decide (sIx ds.length 0 lo = 0) && decide (sIx ds.length ds.length hi = ds.length)) = true then none else (kids (s, .tup ds)).bind fun ds => some (Sh.frz, D.tup (cut ds lo hi))) = some res := e
    split at e'
    · cases e'
    · rename_i hc
      obtain ⟨es, q1, e2⟩ := Option.bind_eq_some_iff.mp e'
      cases e2
      obtain ⟨a, us, rfl, r1, m1, rfl⟩ := kids_tup eh eb h q1
      have l := r1.length
      refine .inr ⟨a, us, rfl, SqT.of m1, ?_, fun p hp => Cont.tup k eh (r1.cut lo hi) hp⟩
      rw [l]
      rintro ⟨h1, h2⟩
      exact hc (by rw [Bool.and_eq_true]; exact ⟨decide_eq_true h1, decide_eq_true h2⟩)
  | _ => cases e
theorem ov_sl00 : OpV w (.sl false false) (Rone fun x H Q => rSl w.K x none none H Q) := by
  intro xs res vs F B H Q hs hr eh eb k
  obtain ⟨⟨s, a⟩, rfl⟩ := sem_one (fun _ _ => rfl) (fun _ _ _ => rfl) hs
  obtain ⟨x, rfl, h1⟩ := repA1 hr
  exact ⟨x, rfl, slice_ok eh eb h1 hs k⟩
theorem ov_sl10 : OpV w (.sl true false) (Rtwo fun x y H Q => ∃ i, y = .int i ∧ rSl w.K x (some i) none H Q) := by
  intro xs res vs F B H Q hs hr eh eb k
  obtain ⟨⟨s, a⟩, ⟨t, b⟩, rfl⟩ := sem_two (fun _ => rfl) (fun _ _ _ => rfl) hs
  obtain ⟨x, y, rfl, h1, h2⟩ := repA2 hr
  cases b <;> first | (cases hs; done) | skip
  rw [v_int h2]
  exact ⟨x, _, rfl, _, rfl, slice_ok eh eb h1 hs k⟩
theorem ov_sl01 : OpV w (.sl false true) (Rtwo fun x y H Q => ∃ i, y = .int i ∧ rSl w.K x none (some i) H Q) := by
  intro xs res vs F B H Q hs hr eh eb k
  obtain ⟨⟨s, a⟩, ⟨t, b⟩, rfl⟩ := sem_two (fun _ => rfl) (fun _ _ _ => rfl) hs
  obtain ⟨x, y, rfl, h1, h2⟩ := repA2 hr
  cases b <;> first | (cases a <;> cases hs; done) | skip
  rename_i i
  rw [v_int h2]
  refine ⟨x, _, rfl, _, rfl, ?_⟩
  cases a with
  | scr ns =>
    have hs' : lit ((cut ns none (some i)).map .int) = some res := hs
    cases hs'
    have hq : ∃ a, x = .ref a ∧ SqL w.K H a (ns.map V.int) := h1.elim fun fp r => RepS.all eh eb _ s x fp r
    obtain ⟨a, rfl, q⟩ := hq
    refine .inl (.inl ⟨a, _, rfl, q, fun p hp => ?_⟩)
    have e : cutV (ns.map V.int) none (some i) = (cut ns none (some i)).map V.int := by
      unfold cutV DI.cut
      rw [List.length_map, List.map_take, List.map_drop]
    rw [e]
    exact Cont.lit k eh (reps_ints _) hp
  | _ => exact slice_ok eh eb h1 hs k
theorem ov_sl11 : OpV w (.sl true true) (fun vs H Q => ∃ x i j, vs = [x, .int i, .int j] ∧ rSl w.K x (some i) (some j) H Q) := by
  intro xs res vs F B H Q hs hr eh eb k
  rcases xs with _ | ⟨a, _ | ⟨b, _ | ⟨c, _ | ⟨d, r⟩⟩⟩⟩
  · cases hs
  · cases hs
  · cases hs
  · obtain ⟨x, y, z, rfl, h1, h2, h3⟩ := repA3 hr
    obtain ⟨s, a⟩ := a
    obtain ⟨t, b⟩ := b
    obtain ⟨u, c⟩ := c
    cases b <;> cases c <;> first | (cases hs; done) | skip
    rw [v_int h2, v_int h3]
    exact ⟨x, _, _, rfl, slice_ok eh eb h1 hs k⟩
  · cases hs
theorem ov_rev : OpV w .rev (Rone fun x H Q => ∃ a xs, x = .ref a ∧ SqL w.K H a xs ∧ ∀ p, H p = none → Q (.ref p) (upd H p (.lst xs.reverse))) := by
  intro xs res vs F B H Q hs hr eh eb k
  obtain ⟨⟨s, a⟩, rfl⟩ := sem_one (fun _ _ => rfl) (fun _ _ _ => rfl) hs
  obtain ⟨x, rfl, h1⟩ := repA1 hr
  cases a <;> first | (cases hs; done) | skip
  obtain ⟨ds, q1, hs'⟩ := Option.bind_eq_some_iff.mp (show (kids _).bind (fun ds => lit ds.reverse) = some res from hs)
  cases hs'
  obtain ⟨a, us, rfl, r1, m1, rfl⟩ := kids_lst eh eb h1 q1
  exact ⟨_, rfl, a, us, rfl, SqL.of m1, fun p hp => Cont.lit k eh r1.reverse hp⟩
/-! ### in -/
def rInDK : R2 := fun x y H Q => ∃ a o, y = .ref a ∧ DGet H a x o ∧ Q (.bl o.isSome) H
def rNotInDK : R2 := fun x y H Q => ∃ a o, y = .ref a ∧ DGet H a x o ∧ Q (.bl (!o.isSome)) H
theorem op_inDK {X : Cx} (hu : X.A.units + 1 < cLine) : OpR X (compareOp .In) rInDK := by
  intro pins s σ H x y v u Q I rx ry h
  obtain ⟨a, o, rfl, g, q⟩ := h
  cases ry
  exact d_in hu I g rx fun s' I' => ⟨.bl _, H, I', rfl, q⟩
theorem op_notInDK {X : Cx} (hu : X.A.units + 1 < cLine) : OpR X (compareOp .NotIn) rNotInDK := by
  intro pins s σ H x y v u Q I rx ry h
  obtain ⟨a, o, rfl, g, q⟩ := h
  cases ry
  exact d_notIn hu I g rx fun s' I' => ⟨.bl _, H, I', rfl, q⟩
theorem op_notInStr {X : Cx} : OpR X (compareOp .NotIn) (fun x y H Q => ∃ i j, x = .str i ∧ y = .str j ∧ Q (.bl (!(!(Builtin.Str.occurrences j i 0 j.length 1).isEmpty))) H) := by
  intro pins s σ H x y v u Q I rx ry h
  obtain ⟨i, j, rfl, rfl, q⟩ := h
  obtain ⟨t, rfl⟩ := rx
  obtain ⟨t', rfl⟩ := ry
  first
    | exact notIn_str ⟨.bl _, H, I, rfl, q⟩
    | exact PySem.P.notIn_str ⟨.bl _, H, I, rfl, q⟩
    | exact not_in_str ⟨.bl _, H, I, rfl, q⟩
abbrev rInAll (K : PySem.W.Frag) : R2 := fun x y H Q => ((∃ i j, x = .str i ∧ y = .str j ∧ Q (.bl (!(Builtin.Str.occurrences j i 0 j.length 1).isEmpty)) H) ∨ rInD K x y H Q) ∨ rInDK x y H Q
abbrev rNotInAll (K : PySem.W.Frag) : R2 := fun x y H Q => ((∃ i j, x = .str i ∧ y = .str j ∧ Q (.bl (!(!(Builtin.Str.occurrences j i 0 j.length 1).isEmpty))) H) ∨ rNotInD K x y H Q) ∨ rNotInDK x y H Q
theorem op_inAll {X : Cx} (hu : X.A.units + 65 < cLine) : OpR X (compareOp .In) (rInAll X.K) := (op_in_str.or (op_inD hu)).or (op_inDK (by omega))
theorem op_notInAll {X : Cx} (hu : X.A.units + 65 < cLine) : OpR X (compareOp .NotIn) (rNotInAll X.K) := (op_notInStr.or (op_notInD hu)).or (op_notInDK (by omega))
theorem v_dit {s : Sh} {ds : List (List Key × D)} {v : V} (eh : Ex F H) (eb : Ex B H) (h : ∃ fp, RepS w F B H (.dit ds) s v fp) : ∃ a vs, v = .ref a ∧ H a = some (.dT vs) ∧ RepT w H ds vs := h.elim fun fp r => RepS.all eh eb _ s v fp r
theorem isSome_K {k : Key} {kvs : List (Key × D)} {ws : List (Key × V)} (h : RepK w F kvs ws) : (valV ws k).isSome = (assoc k kvs).isSome := by
  obtain ⟨h1, h2⟩ := assoc_K (k := k) h
  cases e : assoc k kvs with
  | none => rw [h2 e]; rfl
  | some d => obtain ⟨v, q, _⟩ := h1 d e; rw [q]; rfl
theorem isSome_T {k : List Key} {kvs : List (List Key × D)} {ws : List (List Key × V)} (h : RepT w F kvs ws) : (valV ws k).isSome = (assoc k kvs).isSome := by
  obtain ⟨h1, h2⟩ := assoc_T (k := k) h
  cases e : assoc k kvs with
  | none => rw [h2 e]; rfl
  | some d => obtain ⟨v, q, _⟩ := h1 d e; rw [q]; rfl
/-- what `in` reads -/
theorem isIn_ok {s t : Sh} {a b : D} {x y : V} {c : Bool} (eh : Ex F H) (eb : Ex B H) (h1 : ∃ fp, RepS w F B H a s x fp) (h2 : ∃ fp, RepS w F B H b t y fp) (e : isIn a b = some c) :
    (∃ i j, x = .str i ∧ y = .str j ∧ c = !(Builtin.Str.occurrences j i 0 j.length 1).isEmpty) ∨ (∃ d ds, Dp w.K H x d ∧ Dp w.K H y (.list ds) ∧ SeqAt.shaped d = true ∧ SeqAt.shaped (.list ds) = true ∧ c = ds.any fun z => PyData.eqv z d) ∨
      ∃ a o, y = .ref a ∧ DGet H a x o ∧ c = o.isSome := by
  cases b with
  | str z =>
    cases a with
    | str i =>
      cases e
      exact .inl ⟨i, z, v_str h1, v_str h2, rfl⟩
    | _ => cases e
  | lst ds =>
    have e' : (match toPy a, toPys ds with | some p, some ps => if (SeqAt.shaped p && SeqAt.shaped (.list ps)) = true then some (ps.any fun q => PyData.eqv q p) else none | _, _ => none) = some c := e
    split at e'
    · rename_i p ps q1 q2
      obtain ⟨hc, e'⟩ := ite_some e'
      cases e'
      simp only [Bool.and_eq_true] at hc
      exact .inr (.inl ⟨p, ps, v_dp eh eb h1 q1, v_dp eh eb h2 (show (toPys ds).map PyData.list = _ by rw [q2]; rfl), hc.1, hc.2, rfl⟩)
    · cases e'
  | dic ds =>
    obtain ⟨k, q1, rfl⟩ := Option.map_eq_some_iff.mp (show (keyOf a).map (fun k => (assoc k ds).isSome) = some c from e)
    obtain ⟨p, vs, rfl, e1, e2⟩ := v_dic eh eb h2
    obtain ⟨fp, r⟩ := h1
    exact .inr (.inr ⟨p, valV vs k, rfl, .inl ⟨vs, k, Rd.of e1, keyOf_v (RepS.all eh eb _ _ _ _ r) q1, rfl⟩, (isSome_K e2).symm⟩)
  | dit ds =>
    obtain ⟨k, q1, rfl⟩ := Option.map_eq_some_iff.mp (show (tkeyOf a).map (fun k => (assoc k ds).isSome) = some c from e)
    obtain ⟨p, vs, rfl, e1, e2⟩ := v_dit eh eb h2
    obtain ⟨fp, r⟩ := h1
    obtain ⟨b, hy1, hy2⟩ := tkeyOf_v (RepS.all eh eb _ _ _ _ r) q1
    exact .inr (.inr ⟨p, valV vs k, rfl, .inr ⟨vs, k, b, Rd.of e1, hy1, hy2, rfl⟩, (isSome_T e2).symm⟩)
  | _ => cases e
theorem ov_isIn : OpV w .isIn (Rtwo (rInAll w.K)) := by
  intro xs res vs F B H Q hs hr eh eb k
  obtain ⟨⟨s, a⟩, ⟨t, b⟩, rfl⟩ := sem_two (fun _ => rfl) (fun _ _ _ => rfl) hs
  obtain ⟨x, y, rfl, h1, h2⟩ := repA2 hr
  obtain ⟨c, q, hs'⟩ := Option.bind_eq_some_iff.mp (show ((isIn a b).bind fun c => sc (.bl c)) = some res from hs)
  cases hs'
  have kk : Q (.bl c) H := Cont.sc k eh rfl
  rcases isIn_ok eh eb h1 h2 q with ⟨i, j, rfl, rfl, rfl⟩ | ⟨d, ds, r1, r2, r3, r4, rfl⟩ | ⟨a, o, rfl, r1, rfl⟩
  · exact ⟨_, _, rfl, .inl (.inl ⟨i, j, rfl, rfl, kk⟩)⟩
  · exact ⟨_, _, rfl, .inl (.inr ⟨d, ds, r1, r2, r3, r4, kk⟩)⟩
  · exact ⟨_, _, rfl, .inr ⟨a, o, rfl, r1, kk⟩⟩
theorem ov_notIn : OpV w .notIn (Rtwo (rNotInAll w.K)) := by
  intro xs res vs F B H Q hs hr eh eb k
  obtain ⟨⟨s, a⟩, ⟨t, b⟩, rfl⟩ := sem_two (fun _ => rfl) (fun _ _ _ => rfl) hs
  obtain ⟨x, y, rfl, h1, h2⟩ := repA2 hr
  obtain ⟨c, q, hs'⟩ := Option.bind_eq_some_iff.mp (show ((isIn a b).bind fun c => sc (.bl (!c))) = some res from hs)
  cases hs'
  have kk : Q (.bl (!c)) H := Cont.sc k eh rfl
  rcases isIn_ok eh eb h1 h2 q with ⟨i, j, rfl, rfl, rfl⟩ | ⟨d, ds, r1, r2, r3, r4, rfl⟩ | ⟨a, o, rfl, r1, rfl⟩
  · exact ⟨_, _, rfl, .inl (.inl ⟨i, j, rfl, rfl, kk⟩)⟩
  · exact ⟨_, _, rfl, .inl (.inr ⟨d, ds, r1, r2, r3, r4, kk⟩)⟩
  · exact ⟨_, _, rfl, .inr ⟨a, o, rfl, r1, kk⟩⟩
/-! ### index -/
theorem findD_ok {p : PyData} : ∀ {ds : List PyData} {j : Nat}, findD p ds = some j → ∃ z, ds[j]? = some z ∧ PyData.eqv z p = true ∧ ∀ (m : Nat) (z' : PyData), m < j → ds[m]? = some z' → PyData.eqv z' p = false
  | [], _, h => by cases h
  | q :: r, j, h => by
    rw [findD] at h
    by_cases e : PyData.eqv q p = true
    · rw [if_pos e] at h
      cases h
      exact ⟨q, rfl, e, fun m z' hm => absurd hm (by omega)⟩
    · rw [if_neg e] at h
      obtain ⟨i, h1, rfl⟩ := Option.map_eq_some_iff.mp h
      obtain ⟨z, z1, z2, z3⟩ := findD_ok h1
      refine ⟨z, by simpa using z1, z2, fun m z' hm hz => ?_⟩
      cases m with
      | zero =>
        simp at hz
        subst hz
        simpa using e
      | succ m => exact z3 m z' (by omega) (by simpa using hz)
theorem ov_index : OpV w .index (fun vs H Q => ∃ x xs, vs = x :: xs ∧ rIndexD w.K x xs H Q) := by
  intro xs res vs F B H Q hs hr eh eb k
  obtain ⟨⟨s, a⟩, ⟨t, b⟩, rfl⟩ := sem_two (fun _ => rfl) (fun _ _ _ => rfl) hs
  obtain ⟨x, y, rfl, h1, h2⟩ := repA2 hr
  cases a <;> first | (cases hs; done) | skip
  rename_i ds
  have e' : (match toPy b, toPys ds with | some p, some ps => if (SeqAt.shaped p && SeqAt.shaped (.list ps)) = true then (findD p ps).bind fun j => sc (.int j) else none | _, _ => none) = some res := hs
  split at e'
  · rename_i p ps q1 q2
    obtain ⟨hc, e'⟩ := ite_some e'
    simp only [Bool.and_eq_true] at hc
    obtain ⟨j, hj, e'⟩ := Option.bind_eq_some_iff.mp e'
    cases e'
    obtain ⟨z, z1, z2, z3⟩ := findD_ok hj
    obtain ⟨a, us, rfl, r1, r2⟩ := v_lst eh eb h1
    exact ⟨_, _, rfl, a, y, p, ps, j, z, rfl, rfl, v_dp eh eb h1 (show (toPys ds).map PyData.list = _ by rw [q2]; rfl), v_dp eh eb h2 q1, hc.2, hc.1, z1, z2, z3, Cont.sc k eh rfl⟩
  · cases e'
/-! ### isinstance -/
def tyNm (t : Nat) : String := match t with
  | 0 => "int"
  | 1 => "bool"
  | 2 => "str"
  | 3 => "list"
  | 4 => "tuple"
  | _ => "dict"
theorem kitAll (t : Nat) (ht : t < 6) : kitB "NoneType" (tyNm t) = some false ∧ kitB "bool" (tyNm t) = some (t == 0 || t == 1) ∧ kitB "int" (tyNm t) = some (t == 0) ∧ kitB "str" (tyNm t) = some (t == 2) ∧
    kitB "list" (tyNm t) = some (t == 3) ∧ kitB "tuple" (tyNm t) = some (t == 4) ∧ kitB "dict" (tyNm t) = some (t == 5) := by
  match t, ht with
  | 0, _ => decide +kernel
  | 1, _ => decide +kernel
  | 2, _ => decide +kernel
  | 3, _ => decide +kernel
  | 4, _ => decide +kernel
  | 5, _ => decide +kernel
abbrev rIsi1 (K : PySem.W.Frag) (T : String) : List V → Hp → VK → Prop := Rone fun x H Q => ∃ (t : Value) (b : Bool), TyX K H x t ∧ PySem.W.kitOne K t (.type T) = some b ∧ Q (.bl b) H
theorem ov_isi {t : Nat} (ht : t < 6) : OpV w (.isi t) (rIsi1 w.K (tyNm t)) := by
  intro xs res vs F B H Q hs hr eh eb k
  obtain ⟨⟨s, a⟩, rfl⟩ := sem_one (fun _ _ => rfl) (fun _ _ _ => rfl) hs
  obtain ⟨x, rfl, h1⟩ := repA1 hr
  obtain ⟨b, q, hs'⟩ := Option.bind_eq_some_iff.mp (show ((isTy t a).bind fun b => sc (.bl b)) = some res from hs)
  cases hs'
  have kk : Q (.bl b) H := Cont.sc k eh rfl
  obtain ⟨k0, k1, k2, k3, k4, k5, k6⟩ := kitAll t ht
  refine ⟨x, rfl, ?_⟩
  cases a with
  | non => cases q; rw [v_non h1]; exact ⟨_, _, .base .non, kit_ty k0, kk⟩
  | bl z => cases q; rw [v_bl h1]; exact ⟨_, _, .base (.bl z), kit_ty k1, kk⟩
  | int z => cases q; rw [v_int h1]; exact ⟨_, _, .base (.int z), kit_ty k2, kk⟩
  | str z => cases q; rw [v_str h1]; exact ⟨_, _, .base (.str z), kit_ty k3, kk⟩
  | lst ds => cases q; obtain ⟨a, us, rfl, r1, r2⟩ := v_lst eh eb h1; exact ⟨_, _, .base (.lst r1), kit_ty k4, kk⟩
  | tup ds => cases q; obtain ⟨a, us, rfl, r1, r2⟩ := v_tup eh eb h1; exact ⟨_, _, .base (.tup r1), kit_ty k5, kk⟩
  | dic ds => cases q; obtain ⟨a, us, rfl, r1, r2⟩ := v_dic eh eb h1; exact ⟨_, _, .base (.dK r1), kit_ty k6, kk⟩
  | dit ds => cases q; obtain ⟨a, us, rfl, r1, r2⟩ := v_dit eh eb h1; exact ⟨_, _, .base (.dT r1), kit_ty k6, kk⟩
  | _ => cases q
end DI
/-! DI6e: repr, sorted. -/
namespace DI
open PySem L2
variable {w : Wd} {F F' B H H' : Hp} {Q : VK}
/-! ### repr -/
mutual
theorem noDict : ∀ (d : D) (p : PyData), toPy d = some p → p.hasDict = false
  | .non, _, e => by cases e; rfl
  | .bl _, _, e => by cases e; rfl
  | .int _, _, e => by cases e; rfl
  | .str _, _, e => by cases e; rfl
  | .tup ds, _, e => by
    obtain ⟨ps, q1, rfl⟩ := Option.map_eq_some_iff.mp (show (toPys ds).map PyData.tuple = some _ from e)
    exact noDicts ds ps q1
  | .lst ds, _, e => by
    obtain ⟨ps, q1, rfl⟩ := Option.map_eq_some_iff.mp (show (toPys ds).map PyData.list = some _ from e)
    exact noDicts ds ps q1
  | .dic _, _, e => by cases e
  | .dit _, _, e => by cases e
  | .obj _ _, _, e => by cases e
  | .scr _, _, e => by cases e
theorem noDicts : ∀ (ds : List D) (ps : List PyData), toPys ds = some ps → PyData.hasDictAll ps = false
  | [], _, e => by cases e; rfl
  | d :: ds, _, e => by
    have e' : ((toPy d).bind fun y => (toPys ds).map fun ys => y :: ys) = some _ := e
    obtain ⟨y, q1, q2⟩ := Option.bind_eq_some_iff.mp e'
    obtain ⟨ys, q3, rfl⟩ := Option.map_eq_some_iff.mp q2
    show (PyData.hasDict y || PyData.hasDictAll ys) = false
    rw [noDict d y q1, noDicts ds ys q3]
    rfl
end
def rRepr (K : PySem.W.Frag) : List V → Hp → VK → Prop := fun xs H Q => ∃ x d, xs = [x] ∧ Dp K H x d ∧ d.showable = true ∧ d.hasDict = false ∧ d.shown.length ≤ sizeLine ∧ d.depth ≤ 64 ∧ Q (.str d.shown) H
theorem call_repr {X : Cx} (hg : X.A.guards = some []) (hu : X.A.units + 66 < cLine) : CallR X (.builtin "repr") (rRepr X.K) := by
  intro pins s σ H xs us Q I r h
  obtain ⟨x, d, rfl, dp, h1, h2, h3, h4, q⟩ := h
  obtain ⟨u, rfl, rx⟩ := vals1 r
  obtain ⟨as, rd⟩ := Dp.reads I d x u dp rx
  have big : ∀ {a : Addr}, u = .ref a → wpAny (model X.prog X.w) X.A (call (.builtin "repr") [u]) (EP X pins σ Q) X.xe s := fun {a} e => by
    subst e
    exact PySem.repr_of_reads' rd h1 (fun z => by rw [h2] at z; cases z) hg (by omega) (fun _ _ z => z) (fun h' t tk k => ⟨.str _, H, I.kept k, ⟨_, rfl⟩, q⟩) h3
  cases d with
  | none => cases dp; cases rx; exact PySem.P.repr_of_none ⟨.str _, H, I.tok _, ⟨_, rfl⟩, q⟩
  | bool b => cases dp; cases rx; exact PySem.P.repr_of_bool ⟨.str _, H, I.tok _, ⟨_, rfl⟩, q⟩
  | int i => cases dp; obtain ⟨t, rfl⟩ := rx; exact PySem.P.repr_of_int (of_decide_eq_true h1) ⟨.str _, H, I.tok _, ⟨_, rfl⟩, q⟩
  | str z => cases dp; obtain ⟨t, rfl⟩ := rx; exact PySem.P.repr_of_str ⟨.str _, H, I.tok _, ⟨_, rfl⟩, q⟩ h3
  | list ds => cases dp; cases rx; exact big rfl
  | tuple ds => cases dp; cases rx; exact big rfl
  | dict ds => cases h2
theorem ov_repr : OpV w .repr (rRepr w.K) := by
  intro xs res vs F B H Q hs hr eh eb k
  obtain ⟨⟨s, a⟩, rfl⟩ := sem_one (fun _ _ => rfl) (fun _ _ _ => rfl) hs
  obtain ⟨x, rfl, h1⟩ := repA1 hr
  have e' : (match toPy a with | some p => if (p.showable && decide (p.shown.length ≤ sizeLine) && decide (p.depth ≤ 64)) = true then sc (.str p.shown) else none | none => none) = some res := hs
  split at e'
  · rename_i p q1
    obtain ⟨hc, e'⟩ := ite_some e'
    cases e'
    simp only [Bool.and_eq_true, decide_eq_true_eq] at hc
    exact ⟨x, p, rfl, v_dp eh eb h1 q1, hc.1.1, noDict a p q1, hc.1.2, hc.2, Cont.sc k eh rfl⟩
  · cases e'
/-! ### there is just one sorted list -/
theorem strLt_lt {a b : Str} : strLt a b = true ↔ a.cps.toList < b.cps.toList := decide_eq_true_iff
def strLe (a b : Str) : Prop := strLt b a = false
theorem strLe_iff {a b : Str} : strLe a b ↔ ¬ b.cps.toList < a.cps.toList := by
  unfold strLe strLt
  rw [decide_eq_false_iff_not]
theorem strLe_trans {a b c : Str} (h1 : strLe a b) (h2 : strLe b c) : strLe a c := by
  rw [strLe_iff] at *
  exact List.le_trans h1 h2
theorem strLe_anti {a b : Str} (h1 : strLe a b) (h2 : strLe b a) : a = b := by
  rw [strLe_iff] at h1 h2
  have e : a.cps.toList = b.cps.toList := List.le_antisymm h1 h2
  cases a; cases b
  simp only at e
  congr 1
  exact Array.toList_inj.mp e
theorem strLt_le {a b : Str} (h : strLt a b = true) : strLe a b := by
  rw [strLe_iff]
  exact List.lt_asymm (strLt_lt.mp h)
theorem insS_perm (x : Str) : ∀ l : List Str, (insS x l).Perm (x :: l)
  | [] => List.Perm.refl _
  | y :: r => by
    unfold insS
    split
    · exact ((insS_perm x r).cons y).trans (List.Perm.swap x y r)
    · exact List.Perm.refl _
theorem sortS_perm : ∀ l : List Str, (sortS l).Perm l
  | [] => List.Perm.refl _
  | x :: r => (insS_perm x (sortS r)).trans ((sortS_perm r).cons x)
theorem insS_rises (x : Str) : ∀ l : List Str, l.Pairwise strLe → (insS x l).Pairwise strLe
  | [], _ => by simp [insS]
  | y :: r, h => by
    obtain ⟨h1, h2⟩ := List.pairwise_cons.mp h
    unfold insS
    split
    · rename_i c
      refine List.pairwise_cons.mpr ⟨fun z hz => ?_, insS_rises x r h2⟩
      rcases List.mem_cons.mp ((insS_perm x r).mem_iff.mp hz) with rfl | hz
      · exact strLt_le c
      · exact h1 z hz
    · rename_i c
      have c' : strLe x y := by simpa [strLe] using c
      refine List.pairwise_cons.mpr ⟨fun z hz => ?_, h⟩
      rcases List.mem_cons.mp hz with rfl | hz
      · exact c'
      · exact strLe_trans c' (h1 z hz)
theorem sortS_rises : ∀ l : List Str, (sortS l).Pairwise strLe
  | [] => List.Pairwise.nil
  | x :: r => insS_rises x _ (sortS_rises r)
theorem sortedS_pw : ∀ {l : List Str}, PyProof.Rows.sortedS l = true → l.Pairwise strLe
  | [], _ => List.Pairwise.nil
  | x :: r, h => by
    have go : ∀ (p : Str) (r : List Str), PyProof.Rows.risingS p r = true → (p :: r).Pairwise strLe := by
      intro p r
      induction r generalizing p with
      | nil => intro _; simp
      | cons y t ih =>
        intro h
        have h' : (!PySem.Spec.ltCps y.cps.toList p.cps.toList && PyProof.Rows.risingS y t) = true := h
        simp only [Bool.and_eq_true, Bool.not_eq_true'] at h'
        have l1 : strLe p y := by
          show decide _ = false
          rw [← PyProof.Rows.ltCps_eq]
          exact h'.1
        have := ih y h'.2
        refine List.pairwise_cons.mpr ⟨fun z hz => ?_, this⟩
        rcases List.mem_cons.mp hz with rfl | hz
        · exact l1
        · exact strLe_trans l1 ((List.pairwise_cons.mp this).1 z hz)
    exact go x r h
theorem sortS_uniq {l m : List Str} (p : l.Perm m) (h : PyProof.Rows.sortedS l = true) : l = sortS m :=
  List.Perm.eq_of_pairwise (fun a b _ _ h1 h2 => strLe_anti h1 h2) (sortedS_pw h) (sortS_rises m) (p.trans (sortS_perm m).symm)
theorem insI_perm (x : Int) : ∀ l : List Int, (insI x l).Perm (x :: l)
  | [] => List.Perm.refl _
  | y :: r => by
    unfold insI
    split
    · exact List.Perm.refl _
    · exact ((insI_perm x r).cons y).trans (List.Perm.swap x y r)
theorem sortI_perm : ∀ l : List Int, (sortI l).Perm l
  | [] => List.Perm.refl _
  | x :: r => (insI_perm x (sortI r)).trans ((sortI_perm r).cons x)
theorem insI_rises (x : Int) : ∀ l : List Int, l.Pairwise (· ≤ ·) → (insI x l).Pairwise (· ≤ ·)
  | [], _ => by simp [insI]
  | y :: r, h => by
    obtain ⟨h1, h2⟩ := List.pairwise_cons.mp h
    unfold insI
    split
    · rename_i c
      refine List.pairwise_cons.mpr ⟨fun z hz => ?_, h⟩
      rcases List.mem_cons.mp hz with rfl | hz
      · omega
      · have := h1 z hz
        omega
    · rename_i c
      refine List.pairwise_cons.mpr ⟨fun z hz => ?_, insI_rises x r h2⟩
      rcases List.mem_cons.mp ((insI_perm x r).mem_iff.mp hz) with rfl | hz
      · omega
      · exact h1 z hz
theorem sortI_rises : ∀ l : List Int, (sortI l).Pairwise (· ≤ ·)
  | [] => List.Pairwise.nil
  | x :: r => insI_rises x _ (sortI_rises r)
theorem sortI_uniq {l m : List Int} (p : l.Perm m) (h : l.Pairwise (· ≤ ·)) : l = sortI m :=
  List.Perm.eq_of_pairwise (fun a b _ _ h1 h2 => Int.le_antisymm h1 h2) h (sortI_rises m) (p.trans (sortI_perm m).symm)
/-! ### sorted of a list, of a dict's keys -/
def rSortDS : List V → Hp → VK → Prop := fun xs H Q => ∃ (a : Addr) (kvs : List (Key × V)) (ks : List Str), xs = [V.ref a] ∧ Rd H a (.dK kvs) ∧ kvs.map (·.1) = ks.map Sum.inr ∧ ks.length < 64 ∧
    ∀ (ys : List Str) (p : Addr), ys.Perm ks → PyProof.Rows.sortedS ys = true → H p = none → Q (.ref p) (upd H p (.lst (ys.map V.str)))
def rSortDI : List V → Hp → VK → Prop := fun xs H Q => ∃ (a : Addr) (kvs : List (Key × V)) (ks : List Int), xs = [V.ref a] ∧ Rd H a (.dK kvs) ∧ kvs.map (·.1) = ks.map Sum.inl ∧ ks.length < 64 ∧
    ∀ (ys : List Int) (p : Addr), ys.Perm ks → ys.Pairwise (· ≤ ·) → H p = none → Q (.ref p) (upd H p (.lst (ys.map V.int)))
abbrev rSortAll (K : PySem.W.Frag) : List V → Hp → VK → Prop := fun xs H Q => ((rSortedS K xs H Q ∨ rSorted K xs H Q) ∨ rSortDS xs H Q) ∨ rSortDI xs H Q
theorem call_sortAll {X : Cx} (hc : X.calm = true) : CallR X (.builtin "sorted") (rSortAll X.K) := ((cr_sortedS.or cr_sorted).or (call_sortedD hc)).or (call_sortedDI hc)
theorem keysS : ∀ {kvs : List (Key × D)} {ws : List (Key × V)} {zs : List Str}, RepK w F kvs ws → strsOf (kvs.map fun kv => match kv.1 with | .inl i => D.int i | .inr z => D.str z) = some zs → ws.map (·.1) = zs.map Sum.inr
  | [], _, _, h, e => by cases e; cases h; rfl
  | (.inr z, d) :: r, _, _, h, e => by
    obtain ⟨v, q, rfl, h1, h2⟩ := h
    obtain ⟨t, e1, rfl⟩ := Option.map_eq_some_iff.mp (show (strsOf (r.map fun kv => match kv.1 with | .inl i => D.int i | .inr z => D.str z)).map (fun t => z :: t) = some _ from e)
    rw [List.map_cons, keysS h2 e1]
    rfl
  | (.inl z, d) :: r, _, _, h, e => by cases e
theorem keysI : ∀ {kvs : List (Key × D)} {ws : List (Key × V)} {zs : List Int}, RepK w F kvs ws → intsOf (kvs.map fun kv => match kv.1 with | .inl i => D.int i | .inr z => D.str z) = some zs → ws.map (·.1) = zs.map Sum.inl
  | [], _, _, h, e => by cases e; cases h; rfl
  | (.inl z, d) :: r, _, _, h, e => by
    obtain ⟨v, q, rfl, h1, h2⟩ := h
    obtain ⟨t, e1, rfl⟩ := Option.map_eq_some_iff.mp (show (intsOf (r.map fun kv => match kv.1 with | .inl i => D.int i | .inr z => D.str z)).map (fun t => z :: t) = some _ from e)
    rw [List.map_cons, keysI h2 e1]
    rfl
  | (.inr z, d) :: r, _, _, h, e => by cases e
theorem sortA_ok {ds es : List D} (h : sortA ds = some es) : (∃ zs, strsOf ds = some zs ∧ zs.length < 64 ∧ es = (sortS zs).map .str) ∨ ∃ zs, intsOf ds = some zs ∧ zs.length < 64 ∧ es = (sortI zs).map .int := by
  unfold sortA at h
  split at h
  · rename_i zs q
    obtain ⟨hz, h⟩ := iteP_some h
    cases h
    exact .inl ⟨zs, q, hz, rfl⟩
  · split at h
    · rename_i zs q
      obtain ⟨hz, h⟩ := iteP_some h
      cases h
      exact .inr ⟨zs, q, hz, rfl⟩
    · cases h
theorem sortD_ok {ds es : List D} (h : sortD ds = some es) : sortA ds = some es ∨ ∃ ps, toPys ds = some ps ∧ sortOk ps = true ∧ ds.length ≤ sizeLine ∧ es = ds.mergeSort leD := by
  unfold sortD at h
  split at h
  · rename_i q
    cases h
    exact .inl q
  · split at h
    · rename_i ps q
      obtain ⟨hz, h⟩ := ite_some h
      cases h
      obtain ⟨h1, h2⟩ := Bool.and_eq_true_iff.mp hz
      exact .inr ⟨ps, q, h1, of_decide_eq_true h2, rfl⟩
    · cases h
/-- sorted(xs), data alike -/
def rSortDt (K : PySem.W.Frag) : List V → Hp → VK → Prop := fun vs H Q => ∃ (a : Addr) (us : List V) (ps : List PyData), vs = [V.ref a] ∧ SqL K H a us ∧ DpAll K H us ps ∧ sortOk ps = true ∧
  ∀ p : Addr, H p = none → Q (.ref p) (upd H p (.lst (((us.zip ps).mergeSort (PySem.W.dataLe false fun b : V × PyData => b.2)).map (·.1))))
theorem dps_len {K : PySem.W.Frag} : ∀ {us : List V} {ps : List PyData}, DpAll K H us ps → us.length = ps.length
  | _, _, .nil => rfl
  | _, _, .cons _ h => by rw [List.length_cons, List.length_cons, dps_len h]
theorem each_zip {X : Cx} {pins : List (Addr × Obj)} {σ : L2.St} {s : Shared} (I : L2.Inv X pins σ H s) : ∀ {us : List V} {its : List Value} {ps : List PyData}, Vals us its → DpAll X.K H us ps →
    PySem.W.EachIs (fun (v : Value) (b : V × PyData) => RelV b.1 v) its (us.zip ps) ∧ PySem.W.EachIs (fun (v : Value) (b : V × PyData) => ∃ as, PySem.Reads s.heap v b.2 as) its (us.zip ps)
  | _, _, _, r, .nil => by cases r; exact ⟨.nil, .nil⟩
  | _, _, _, r, .cons d1 d2 => by
    cases r with
    | cons r1 r2 =>
      obtain ⟨e1, e2⟩ := each_zip I r2 d2
      exact ⟨.cons r1 e1, .cons (Dp.reads I _ _ _ d1 r1) e2⟩
theorem each_vals : ∀ {out : List Value} {bs : List (V × PyData)}, PySem.W.EachIs (fun (v : Value) (b : V × PyData) => RelV b.1 v) out bs → Vals (bs.map (·.1)) out
  | _, _, .nil => .nil
  | _, _, .cons h t => .cons h (each_vals t)
theorem zip_snd {α β : Type} : ∀ {us : List α} {ps : List β}, us.length = ps.length → (us.zip ps).map (·.2) = ps
  | [], [], _ => rfl
  | _ :: us, _ :: ps, h => by
    rw [List.zip_cons_cons, List.map_cons, zip_snd (Nat.succ.inj h)]
theorem cr_sortDt {X : Cx} (hu : X.A.units + 200 < cLine) : CallR X (.builtin "sorted") (rSortDt X.K) := by
  intro pins s σ H vs us Q I r h
  obtain ⟨a, ws, ps, rfl, hs, hd, hk, q⟩ := h
  obtain ⟨its, rv, hl, hz⟩ := I.list hs
  rw [Vals.ref1 r]
  obtain ⟨e1, e2⟩ := each_zip I rv hd
  have hlen := dps_len hd
  have hsnd : (ws.zip ps).map (fun b : V × PyData => b.2) = ps := zip_snd hlen
  obtain ⟨k1, k2⟩ := Bool.and_eq_true_iff.mp hk
  obtain ⟨k2, k3⟩ := Bool.and_eq_true_iff.mp k2
  have hzl : (ws.zip ps).length = ws.length := by rw [List.length_zip, ← hlen, Nat.min_self]
  refine PySem.W.sorted_data (R := fun (v : Value) (b : V × PyData) => RelV b.1 v) (enc := fun b : V × PyData => b.2) hl.isList e1 e2 ?_ ?_ (by rw [hzl]; exact hz) (fun b hb => ?_) fun out ho eo => ?_
  · rw [hsnd]
    intro d hd1 d' hd2
    exact List.all_eq_true.mp (List.all_eq_true.mp k1 d hd1) d' hd2
  · rw [hsnd]
    rcases Bool.or_eq_true_iff.mp k2 with k2 | k2
    · refine .inl fun d hd1 => ?_
      have := List.all_eq_true.mp k2 d hd1
      unfold tup1 at this
      split at this
      · exact ⟨_, _, rfl⟩
      · cases this
    · refine .inr fun d hd1 => ?_
      have := List.all_eq_true.mp k2 d hd1
      unfold alone at this
      split at this
      · cases this
      · cases this
      · rename_i n1 n2
        exact ⟨n2, n1⟩
  · have hm : b.2 ∈ ps := by
      rw [← hsnd]
      exact List.mem_map.mpr ⟨b, hb, rfl⟩
    have := of_decide_eq_true (List.all_eq_true.mp k3 b.2 hm)
    omega
  · obtain ⟨ep, he'⟩ := PyProof.Rows.sortedAll_at s.heap its out.toArray
    have rv2 := each_vals eo
    have hl2 : (((ws.zip ps).mergeSort (PySem.W.dataLe false fun b : V × PyData => b.2)).map (·.1)).length ≤ sizeLine := by
      rw [List.length_map, List.length_mergeSort, hzl]
      exact hz
    exact ⟨.ref _, upd H (s.heap.objs.size + 1) (.lst (((ws.zip ps).mergeSort (PySem.W.dataLe false fun b : V × PyData => b.2)).map (·.1))), I.laid (t' := s.toks) (fun _ _ => PyProof.Rows.sortedAll_old) (Nat.le_succ _) ⟨hl2, out, ep, rv2, he'⟩, rfl, q _ (I.hok.fresh (Nat.le_succ _))⟩
theorem toPys_pyD : ∀ {ds : List D} {ps : List PyData}, toPys ds = some ps → ps = ds.map pyD
  | [], _, h => by cases h; rfl
  | d :: ds, _, h => by
    obtain ⟨y, e1, h⟩ := Option.bind_eq_some_iff.mp (show (toPy d).bind (fun y => (toPys ds).map fun ys => y :: ys) = some _ from h)
    obtain ⟨ys, e2, rfl⟩ := Option.map_eq_some_iff.mp h
    rw [List.map_cons, toPys_pyD e2]
    show _ = (toPy d).getD .none :: _
    rw [e1]
    rfl
theorem reps_perm : ∀ {ds : List D} {us : List V}, Reps w F ds us → Reps w F ((us.zip ds).map (·.2)) ((us.zip ds).map (·.1))
  | [], _, h => by cases h; rfl
  | d :: ds, _, h => by
    obtain ⟨v, r, rfl, h1, h2⟩ := h
    exact ⟨v, _, rfl, h1, reps_perm h2⟩
theorem reps_of : ∀ {bs : List (V × D)}, (∀ b ∈ bs, Rep w F b.2 b.1) → Reps w F (bs.map (·.2)) (bs.map (·.1))
  | [], _ => rfl
  | b :: bs, h => ⟨b.1, _, rfl, h b (.head _), reps_of fun c hc => h c (.tail _ hc)⟩
theorem reps_mem : ∀ {ds : List D} {us : List V}, Reps w F ds us → ∀ b ∈ us.zip ds, Rep w F b.2 b.1
  | [], _, h, b, hb => by cases h; cases hb
  | d :: ds, _, h, b, hb => by
    obtain ⟨v, r, rfl, h1, h2⟩ := h
    rcases List.mem_cons.mp hb with rfl | hb
    · exact h1
    · exact reps_mem h2 b hb
/-- the values go with the data -/
theorem reps_sort {ds : List D} {us : List V} (r : Reps w F ds us) : Reps w F (ds.mergeSort leD) (((us.zip (ds.map pyD)).mergeSort (PySem.W.dataLe false fun b : V × PyData => b.2)).map (·.1)) := by
  have hl := r.length
  have e1 : us.zip (ds.map pyD) = (us.zip ds).map fun b => (b.1, pyD b.2) := by
    rw [List.zip_map_right]
    rfl
  have e2 : (us.zip (ds.map pyD)).mergeSort (PySem.W.dataLe false fun b : V × PyData => b.2) = ((us.zip ds).mergeSort fun a b => leD a.2 b.2).map fun b => (b.1, pyD b.2) := by
    rw [e1]
    exact (List.map_mergeSort (f := fun b : V × D => (b.1, pyD b.2)) (r := fun a b => leD a.2 b.2) (s := PySem.W.dataLe false fun b : V × PyData => b.2) (l := us.zip ds) fun a _ b _ => rfl).symm
  have e3 : ds.mergeSort leD = ((us.zip ds).mergeSort fun a b => leD a.2 b.2).map (·.2) := by
    conv => lhs; rw [← zip_snd (us := us) (ps := ds) hl]
    exact (List.map_mergeSort (f := fun b : V × D => b.2) (r := fun a b => leD a.2 b.2) (s := leD) (l := us.zip ds) fun a _ b _ => rfl).symm
  rw [e2, e3, List.map_map]
  exact reps_of fun b hb => reps_mem r b (List.mem_mergeSort.mp hb)
abbrev rSortAl (K : PySem.W.Frag) : List V → Hp → VK → Prop := fun xs H Q => rSortAll K xs H Q ∨ rSortDt K xs H Q
theorem call_sortAl {X : Cx} (hc : X.calm = true) (hu : X.A.units + 200 < cLine) : CallR X (.builtin "sorted") (rSortAl X.K) := (call_sortAll hc).or (cr_sortDt hu)
theorem ov_sorted : OpV w .sorted (rSortAl w.K) := by
  intro xs res vs F B H Q hs hr eh eb k
  obtain ⟨⟨s, a⟩, rfl⟩ := sem_one (fun _ _ => rfl) (fun _ _ _ => rfl) hs
  obtain ⟨x, rfl, h1⟩ := repA1 hr
  cases a <;> first | (cases hs; done) | skip
  · rename_i es
    obtain ⟨ds, q1, hs'⟩ := Option.bind_eq_some_iff.mp (show (kids (s, .lst es)).bind (fun ds => (sortD ds).bind lit) = some res from hs)
    obtain ⟨es', q2, hs'⟩ := Option.bind_eq_some_iff.mp hs'
    cases hs'
    obtain ⟨a, us, rfl, r1, m1, rfl⟩ := kids_lst eh eb h1 q1
    rcases sortD_ok q2 with q2 | ⟨ps, e1, e2, e3, rfl⟩
    · rcases sortA_ok q2 with ⟨zs, e1, e2, rfl⟩ | ⟨zs, e1, e2, rfl⟩
      · rw [strs_v r1 e1] at m1
        refine .inl (.inl (.inl (.inl ⟨a, zs, rfl, SqL.of m1, e2, fun ys p hp hso hH => ?_⟩)))
        rw [sortS_uniq hp hso]
        exact Cont.lit k eh (reps_strs _) hH
      · rw [ints_v r1 e1] at m1
        refine .inl (.inl (.inl (.inr ⟨a, zs, rfl, SqL.of m1, e2, fun ys p hp hso hH => ?_⟩)))
        rw [sortI_uniq hp hso]
        exact Cont.lit k eh (reps_ints _) hH
    · refine .inr ⟨a, us, ps, rfl, SqL.of m1, rep_dps _ _ _ (Reps.mono eh _ _ r1) e1, e2, fun p hp => ?_⟩
      have ep := toPys_pyD e1
      subst ep
      exact Cont.lit k eh (reps_sort r1) hp
  · rename_i kvs
    obtain ⟨es', q2, hs'⟩ := Option.bind_eq_some_iff.mp (show (sortA (kvs.map fun kv => match kv.1 with | .inl i => D.int i | .inr z => D.str z)).bind lit = some res from hs)
    cases hs'
    obtain ⟨a, us, rfl, r1, r2⟩ := v_dic eh eb h1
    rcases sortA_ok q2 with ⟨zs, e1, e2, rfl⟩ | ⟨zs, e1, e2, rfl⟩
    · refine .inl (.inl (.inr ⟨a, us, zs, rfl, Rd.of r1, keysS r2 e1, e2, fun ys p hp hso hH => ?_⟩))
      rw [sortS_uniq hp hso]
      exact Cont.lit k eh (reps_strs _) hH
    · refine .inl (.inr ⟨a, us, zs, rfl, Rd.of r1, keysI r2 e1, e2, fun ys p hp hso hH => ?_⟩)
      rw [sortI_uniq hp hso]
      exact Cont.lit k eh (reps_ints _) hH
end DI
/-! DI6h: a dict of a list of pairs. -/
namespace DI
open PySem L2
variable {w : Wd} {F F' B H H' : Hp} {Q : VK}
theorem putK_hit {κ : Type} [DecidableEq κ] {k : κ} {u v : V} {r : List (κ × V)} (h : k ∉ r.map (·.1)) : putK ((k, v) :: r) k u = (k, u) :: r := by
  unfold putK
  rw [if_pos (by simp)]
  have e : ∀ l : List (κ × V), k ∉ l.map (·.1) → l.map (fun kv => if kv.1 = k then (kv.1, u) else kv) = l := by
    intro l
    induction l with
    | nil => intro _; rfl
    | cons p l ih =>
      intro hl
      rw [List.map_cons, List.mem_cons, not_or] at hl
      rw [List.map_cons, ih hl.2, if_neg fun z => hl.1 z.symm]
  rw [List.map_cons, e r h]
  simp
theorem putK_miss {κ : Type} [DecidableEq κ] {j k : κ} {u v : V} {r : List (κ × V)} (h : ¬ j = k) : putK ((j, v) :: r) k u = (j, v) :: putK r k u := by
  unfold putK
  rw [List.any_cons]
  simp only [h, decide_false, Bool.false_or]
  split
  · rw [List.map_cons]
    simp [h]
  · rfl
theorem repK_put {k : Key} {d : D} {u : V} (r : Rep w F d u) : ∀ {ds : List (Key × D)} {ws : List (Key × V)}, RepK w F ds ws → (ws.map (·.1)).Nodup →
    RepK w F (putA k d ds) (putK ws k u) ∧ ((putK ws k u).map (·.1)).Nodup ∧ ∀ j, j ∈ (putK ws k u).map (·.1) → j = k ∨ j ∈ ws.map (·.1)
  | [], _, h, _ => by
    cases h
    exact ⟨⟨u, [], rfl, r, rfl⟩, by show [k].Nodup; simp, fun j hj => .inl (List.mem_singleton.mp hj)⟩
  | (j, d0) :: ds, _, h, n => by
    obtain ⟨v, q, rfl, e2, e3⟩ := h
    have n' := List.nodup_cons.mp (show (j :: q.map (·.1)).Nodup from n)
    by_cases c : j = k
    · subst c
      rw [putK_hit n'.1, putA, if_pos rfl]
      exact ⟨⟨u, q, rfl, r, e3⟩, n, fun i hi => .inr hi⟩
    · obtain ⟨q1, q2, q3⟩ := repK_put (k := k) r e3 n'.2
      rw [putK_miss c, putA, if_neg c]
      refine ⟨⟨v, _, rfl, e2, q1⟩, List.nodup_cons.mpr ⟨fun hj => ?_, q2⟩, fun i hi => ?_⟩
      · rcases q3 j hj with e | e
        · exact c e
        · exact n'.1 e
      · rcases List.mem_cons.mp hi with rfl | hi
        · exact .inr (.head _)
        · rcases q3 i hi with e | e
          · exact .inl e
          · exact .inr (.tail _ e)
theorem repK_merge : ∀ {more : List (Key × D)} {mv : List (Key × V)}, RepK w F more mv → ∀ {ds : List (Key × D)} {ws : List (Key × V)}, RepK w F ds ws → (ws.map (·.1)).Nodup → RepK w F (mergeA ds more) (mergeK ws mv)
  | [], _, h, _, _, h2, _ => by
    cases h
    exact h2
  | (k, d) :: more, _, h, ds, ws, h2, n => by
    obtain ⟨v, q, rfl, e2, e3⟩ := h
    obtain ⟨q1, q2, _⟩ := repK_put (k := k) e2 h2 n
    exact repK_merge e3 q1 q2
theorem repK_ss : ∀ (ds : List (Key × D)) (vs : List (Key × V)), RepK w F ds vs → RepSk w F B H ds .frz vs []
  | [], _, h => by
    cases h
    exact ⟨rfl, rfl⟩
  | (k, d) :: ds, _, h => by
    obtain ⟨v, q, rfl, e2, e3⟩ := h
    exact ⟨v, q, [], [], rfl, rfl, RepS_frz.mpr ⟨e2, rfl⟩, repK_ss ds q e3⟩
theorem pairs_v (eh : Ex F H) : ∀ {ds : List D} {kvs : List (Key × D)} {us : List V}, pairsOf ds = some kvs → Reps w F ds us → ∃ (ps : List Addr) (kv : List (Key × V)), us = ps.map V.ref ∧ Paired (fun p kv => SqT w.K H p [kV kv.1, kv.2]) ps kv ∧ RepK w F kvs kv
  | [], _, _, h, r => by
    cases h
    cases r
    exact ⟨[], [], rfl, .nil, rfl⟩
  | .tup [k, v] :: ds, _, _, h, r => by
    obtain ⟨key, h1, h⟩ := Option.bind_eq_some_iff.mp (show (keyOf k).bind (fun k => (pairsOf ds).map fun t => (k, v) :: t) = _ from h)
    obtain ⟨t, h2, rfl⟩ := Option.map_eq_some_iff.mp h
    obtain ⟨u, us, rfl, ⟨a, vs, rfl, m1, r1⟩, r2⟩ := r
    obtain ⟨ps, kv, rfl, q1, q2⟩ := pairs_v eh h2 r2
    obtain ⟨v1, vr, rfl, r3, r4⟩ := r1
    obtain ⟨v2, vr2, rfl, r5, r6⟩ := r4
    cases r6
    have e1 := keyOf_v r3 h1
    subst e1
    exact ⟨a :: ps, (key, v2) :: kv, rfl, .cons (SqT.of (eh _ _ m1)) q1, v2, kv, rfl, r5, q2⟩
abbrev rDictP (K : PySem.W.Frag) : List V → Hp → VK → Prop := fun xs H Q => ∃ (a : Addr) (ps : List Addr) (kvs : List (Key × V)), xs = [.ref a] ∧ SqL K H a (ps.map V.ref) ∧ Paired (fun p kv => SqT K H p [kV kv.1, kv.2]) ps kvs ∧
    ∀ p, H p = none → Q (.ref p) (upd H p (.dK (mergeK [] kvs)))
theorem ov_dict : OpV w .dict (rDictP w.K) := by
  intro xs res vs F B H Q hs hr eh eb k
  obtain ⟨⟨s, a⟩, rfl⟩ := sem_one (fun _ _ => rfl) (fun _ _ _ => rfl) hs
  obtain ⟨x, rfl, h1⟩ := repA1 hr
  cases a <;> first | (cases hs; done) | skip
  rename_i ds0
  obtain ⟨ds, q1, hs'⟩ := Option.bind_eq_some_iff.mp (show (kids (s, .lst ds0)).bind (fun ds => (pairsOf ds).bind fun kvs => some (.dic .frz, .dic (mergeA [] kvs))) = some res from hs)
  obtain ⟨kvs, q2, hs'⟩ := Option.bind_eq_some_iff.mp hs'
  cases hs'
  obtain ⟨a, us, rfl, r1, m1, rfl⟩ := kids_lst eh eb h1 q1
  obtain ⟨ps, kv, rfl, p1, p2⟩ := pairs_v eh q2 r1
  refine ⟨a, ps, kv, rfl, SqL.of m1, p1, fun p hp => ?_⟩
  have fp : F p = none := ex_none eh hp
  have rk : RepK w F (mergeA [] kvs) (mergeK [] kv) := repK_merge p2 (ds := []) (ws := []) rfl List.nodup_nil
  refine k (.ref p) _ F [p] (ex_upd hp) (ex_refl F) (ex_trans eh (ex_upd hp)) (fun _ _ e => .inl e) ⟨p, _, [], rfl, rfl, upd_same, repK_ss _ _ rk⟩ (fun a ha => ?_) (by simp)
  rw [List.mem_singleton.mp ha]
  exact ⟨hp, fp⟩
end DI
/-! DI6g: len(set(texts)), as an expression. -/
namespace DI
open PySem L2
variable {w : Wd} {F F' B H H' : Hp} {Q : VK}
abbrev rLenTx (K : PySem.W.Frag) : V → Hp → VK → Prop := fun x H Q => ∃ (l : Addr) (zs : List Str), x = .ref l ∧ SqL K H l (zs.map V.str) ∧ zs.length ≤ 4000 ∧ Q (.int ((nodups zs.reverse).length : Nat)) H
theorem ov_setlen : OpV w .setlen (Rone (rLenTx w.K)) := by
  intro xs res vs F B H Q hs hr eh eb k
  obtain ⟨⟨s, a⟩, rfl⟩ := sem_one (fun _ _ => rfl) (fun _ _ _ => rfl) hs
  obtain ⟨x, rfl, h1⟩ := repA1 hr
  cases a <;> first | (cases hs; done) | skip
  rename_i ds
  obtain ⟨zs, q1, hs'⟩ := Option.bind_eq_some_iff.mp (show (strsOf ds).bind (fun zs => if zs.length ≤ 4000 then sc (.int (nodups zs.reverse).length) else none) = some res from hs)
  obtain ⟨hz, hs'⟩ := iteP_some hs'
  cases hs'
  obtain ⟨a, us, rfl, r1, r2⟩ := v_lst eh eb h1
  rw [strs_v r2 q1] at r1
  exact ⟨_, rfl, a, zs, rfl, SqL.of r1, hz, Cont.sc k eh rfl⟩
theorem ov_sortset : OpV w .sortset (Rone (rSortTx w.K)) := by
  intro xs res vs F B H Q hs hr eh eb k
  obtain ⟨⟨s, a⟩, rfl⟩ := sem_one (fun _ _ => rfl) (fun _ _ _ => rfl) hs
  obtain ⟨x, rfl, h1⟩ := repA1 hr
  cases a <;> first | (cases hs; done) | skip
  rename_i ds
  obtain ⟨zs, q1, hs'⟩ := Option.bind_eq_some_iff.mp (show (strsOf ds).bind (fun zs => if zs.length ≤ 4000 then lit ((sortS (nodups zs.reverse)).map .str) else none) = some res from hs)
  obtain ⟨hz, hs'⟩ := iteP_some hs'
  cases hs'
  obtain ⟨a, us, rfl, r1, r2⟩ := v_lst eh eb h1
  rw [strs_v r2 q1] at r1
  refine ⟨_, rfl, a, zs, rfl, SqL.of r1, hz, fun ys p hp hso hH => ?_⟩
  rw [sortS_uniq hp hso]
  exact Cont.lit k eh (reps_strs _) hH
theorem pe_lenTx {X : Cx} {a : Expr} {ta : TE} {p p2 q pos : Pos} (hc : X.calm = true) (hg : Gl X "len") (hm : X.mg "len" = none) (hg2 : Gl X "set") (hm2 : X.mg "set" = none) (ha : PE X a ta)
    (na : starEach [a] X.env = (false, eval a X.env) :: starEach [] X.env) : PE X (.Call (.Name "len" p) [.Call (.Name "set" p2) [a] [] q] [] pos) (fun σ H Q => ta σ H fun x H1 => rLenTx X.K x H1 Q) := by
  refine ⟨fun pins s σ H Q I h => PyProof.Rows.Call_ (L2.ld_blt I hg hm boot_len ?_)⟩
  refine PyProof.Rows.callWith_builtin1 (PyProof.Rows.args_cons (PyProof.Rows.Call_ (L2.ld_blt I hg2 hm2 PyProof.Rows.boot_set ?_)) rfl) rfl rfl
  refine PyProof.Rows.callWith_type1 (PyProof.Rows.args_cons (thn (ha.run pins s σ H _ I h) fun v s1 ⟨x, H1, I1, r1, q1⟩ => PyProof.Rows.args_nil ?_) na) na rfl
  obtain ⟨l, zs, rfl, hq, hz, q1⟩ := q1
  cases r1
  obtain ⟨its, r, pl, hl⟩ := I1.list hq
  refine set_of_texts (I1.ok.hd hc) pl.isList r (by unfold scanBound; omega) fun h' tk g kk => PyProof.Rows.args_nil ?_
  obtain ⟨o, es, ep, t, ho, hex, hd, _, _, hb, hf, hn⟩ := g
  have I2 : L2.Inv X pins σ H1 { s1 with heap := h', toks := tk } := I1.kept fun b o e => kk b o (Heap.lt_size e) e
  have e : metN zs zs.length = (nodups zs.reverse).length := by
    unfold metN
    rw [List.take_length]
  rw [e] at hn
  have hs := sizeLine_eq
  have hle := nodups_le zs.reverse
  rw [List.length_reverse] at hle
  exact PySem.call_len_set ho hex hd hf (by rw [hn]; omega) ⟨.int ((nodups zs.reverse).length : Nat), H1, I2.tok _, ⟨_, by rw [hn]⟩, q1⟩
end DI
/-! DI7a: names, places, constants as expressions. -/
namespace DI
open PySem L2
variable {F F' F1 F2 B B' H H' H1 H2 : Hp} {σ : L2.St} {env : Env} {fps fps' fps1 fps2 : Nat → List Addr}
def bnames : List Str := ["len", "abs", "min", "max", "int", "str", "repr", "list", "tuple", "sorted", "sum", "all", "any", "dict", "set", "isinstance", "range", "enumerate", "zip", "bool"]
structure WOk (w : Wd) (gd : Nat → Nat → Bool) : Prop where
  inj : ∀ f g, w.fn f = w.fn g → f = g
  cls : ∀ c f, gd c f = true → Cls w.K (w.ca c) ∧ NoAttr w.K (w.ca c) (w.fn f)
/-- what the frame is like -/
structure Ctx (X : Cx) (g : Gam) (w : Wd) (sg : Sig) (W : WX) : Prop where
  N : X.N = g.N
  nd : g.N.Nodup
  sc : X.env.scope = g.sc
  K : X.K = w.K
  calm : X.calm = true
  tk : Takes X W
  st : ∀ x, g.st x = true → X.fn x = true ∨ X.env.scope.names.lookup x = some .local
  bl : ∀ x ∈ bnames, X.mg x = none
  un : X.A.units + 200 < cLine
  gd : g.gd = true → X.A.guards = some []
  con : ∀ x d, g.con x = some d → ∃ v u, X.mg x = some u ∧ RelV v u ∧ d.scal = true ∧ ∀ F, Rep w F d v
  wok : WOk w sg.gd
  gfn : ∀ f, g.fn f = w.fn f
  io : ∀ i v, (i, v) ∈ w.io → i ∈ g.io
  kd : g.sc.kind = .function
section
variable {X : Cx} {g : Gam} {w : Wd} {sg : Sig} {cl : Calls} {W : WX}
theorem and2 {a b : Bool} (h : (a && b) = true) : a = true ∧ b = true := Bool.and_eq_true_iff.mp h
theorem okName_ok {x : Str} (h : okName x = true) : (x == ("__debug__" : Str)) = false ∧ (x == ("__classdict__" : Str)) = false ∧ x ≠ ("__name__" : Str) := by
  obtain ⟨h, h3⟩ := and2 h
  obtain ⟨h1, h2⟩ := and2 h
  refine ⟨by simpa using h1, by simpa using h2, fun e => ?_⟩
  subst e
  simp at h3
theorem slot_ok (C : Ctx X g w sg W) {i : Nat} {x : Str} (h : g.slot i x = true) : X.N[i]? = some x ∧ Vis X.env.scope x ∧ (x == ("__debug__" : Str)) = false ∧ (x == ("__classdict__" : Str)) = false := by
  obtain ⟨h, h3⟩ := and2 h
  obtain ⟨h1, h2⟩ := and2 h
  obtain ⟨n1, n2, _⟩ := okName_ok h2
  refine ⟨by rw [C.N]; exact of_decide_eq_true h1, ?_, n1, n2⟩
  unfold Vis
  rw [C.sc]
  split at h3
  · exact .inl (by assumption)
  · exact .inr (.inl (by assumption))
  · exact .inr (.inr (by assumption))
  · cases h3
theorem loc_ok (C : Ctx X g w sg W) {i : Nat} {x : Str} (h : g.loc i x = true) : X.N[i]? = some x ∧ L2.Loc X.env.scope x ∧ (X.fn x = true ∨ X.env.scope.names.lookup x = some .local) ∧ ∀ v, (i, v) ∉ w.io := by
  obtain ⟨h, h4⟩ := and2 h
  obtain ⟨h, h3⟩ := and2 h
  obtain ⟨h1, h2⟩ := and2 h
  obtain ⟨h3, h5⟩ := and2 h3
  refine ⟨by rw [C.N]; exact of_decide_eq_true h1, ?_, C.st x h3, fun v hv => ?_⟩
  rotate_left
  · rw [List.contains_iff_mem.mpr (C.io i v hv)] at h5
    cases h5
  unfold L2.Loc
  rw [C.sc]
  split at h4
  · exact .inl (by assumption)
  · exact .inr (by assumption)
  · cases h4
theorem glo_ok (C : Ctx X g w sg W) {x y : Str} (h : g.glo x y = true) : x = y ∧ Gl X x ∧ (x == ("__debug__" : Str)) = false ∧ x ≠ ("__name__" : Str) := by
  obtain ⟨h, h3⟩ := and2 h
  obtain ⟨h1, h2⟩ := and2 h
  obtain ⟨n1, _, n3⟩ := okName_ok h2
  refine ⟨of_decide_eq_true h1, ?_, n1, n3⟩
  unfold Gl Env.kindOf
  rw [C.sc]
  split at h3
  · assumption
  · cases h3
/-! ### places -/
def tPl (w : Wd) (gd : Nat → Nat → Bool) (p : Pl) : TE := fun σ H Q => ∃ env F B fps x, Sta w F B H σ env fps ∧ p.get gd env = some x ∧ ∀ v, (∃ fp, RepS w F B H x.2 x.1 v fp ∧ ∀ a ∈ fp, a ∈ fps p.root) → Q v H
theorem fld_ok (ok : WOk w gd) {F : Hp} {f : Nat} : ∀ {fs : List (Nat × D)} {ws : List (Str × V)} {d : D}, RepF w F fs ws → fld f fs = some d → ∃ v, ws.lookup (w.fn f) = some v ∧ Rep w F d v
  | [], _, _, h, e => by cases e
  | (j, d) :: r, _, _, h, e => by
    obtain ⟨v, q, rfl, h1, h2⟩ := h
    by_cases c : j = f
    · subst c
      rw [fld, if_pos rfl] at e
      cases e
      exact ⟨v, by simp, h1⟩
    · rw [fld, if_neg c] at e
      obtain ⟨u, q1, q2⟩ := fld_ok ok h2 e
      have n : (w.fn f == w.fn j) = false := beq_eq_false_iff_ne.mpr fun z => c (ok.inj _ _ z.symm)
      exact ⟨u, by rw [List.lookup_cons, n]; exact q1, q2⟩
theorem fldS_ok (ok : WOk w gd) {f : Nat} : ∀ {fs : List (Nat × D)} {ss : List (Nat × Sh)} {ws : List (Str × V)} {fp : List Addr} {d : D} {s : Sh}, RepSf w F B H fs ss ws fp → fld f fs = some d → fld f ss = some s →
    ∃ v fq, (∀ a ∈ fq, a ∈ fp) ∧ ws.lookup (w.fn f) = some v ∧ RepS w F B H d s v fq
  | [], _, _, _, _, _, h, e, _ => by cases e
  | _ :: _, [], _, _, _, _, h, _, _ => False.elim h
  | (j, d) :: r, (k, s) :: ss, _, _, _, _, h, e, e' => by
    obtain ⟨v, q, f1, f2, rfl, rfl, rfl, h1, h2⟩ := h
    by_cases c : j = f
    · subst c
      rw [fld, if_pos rfl] at e e'
      cases e
      cases e'
      exact ⟨v, f1, fun a ha => List.mem_append_left _ ha, by simp, h1⟩
    · rw [fld, if_neg c] at e e'
      obtain ⟨u, fq, q0, q1, q2⟩ := fldS_ok ok h2 e e'
      have n : (w.fn f == w.fn j) = false := beq_eq_false_iff_ne.mpr fun z => c (ok.inj _ _ z.symm)
      exact ⟨u, fq, fun a ha => List.mem_append_right _ (q0 a ha), by rw [List.lookup_cons, n]; exact q1, q2⟩
theorem attr_ok (ok : WOk w gd) {s : Sh} {d : D} {x : SD} {f : Nat} {v : V} {fp : List Addr} (eh : Ex F H) (eb : Ex B H) (r : RepS w F B H d s v fp) (h : attrOf gd (s, d) f = some x) :
    ∃ a c dx ws u fq, v = .ref a ∧ H a = some (.ins (w.ca c) dx ws) ∧ gd c f = true ∧ ws.lookup (w.fn f) = some u ∧ (∀ a ∈ fq, a ∈ fp) ∧ RepS w F B H x.2 x.1 u fq := by
  cases d with
  | obj c fs =>
    obtain ⟨hc, h⟩ := ite_some (show (if gd c f = true then _ else none) = some x from h)
    cases s with
    | frz =>
      obtain ⟨e, q1, rfl⟩ := Option.map_eq_some_iff.mp (show (fld f fs).map (fun d => (Sh.frz, d)) = some x from h)
      obtain ⟨a, dx, ws, e1, e2, e3, e4⟩ := (RepS_frz.mp r).1
      obtain ⟨u, p1, p2⟩ := fld_ok ok e4 q1
      exact ⟨a, c, dx, ws, u, [], e1, eh _ _ e2, hc, p1, fun a ha => (by cases ha), RepS_frz.mpr ⟨p2, rfl⟩⟩
    | bor =>
      obtain ⟨e, q1, rfl⟩ := Option.map_eq_some_iff.mp (show (fld f fs).map (fun d => (Sh.bor, d)) = some x from h)
      obtain ⟨a, dx, ws, e1, e2, e3, e4⟩ := (RepS_bor.mp r).1
      obtain ⟨u, p1, p2⟩ := fld_ok ok e4 q1
      exact ⟨a, c, dx, ws, u, [], e1, eb _ _ e2, hc, p1, fun a ha => (by cases ha), RepS_bor.mpr ⟨p2, rfl⟩⟩
    | obj ss =>
      obtain ⟨a, dx, ws, fq, e1, rfl, e3, e4, e5⟩ := r
      have h' : (match fld f ss, fld f fs with | some s, some d => some (s, d) | _, _ => none) = some x := h
      split at h'
      · rename_i s' d' z1 z2
        cases h'
        obtain ⟨u, gq, p0, p1, p2⟩ := fldS_ok ok e5 z2 z1
        exact ⟨a, c, dx, ws, u, gq, e1, e3, hc, p1, fun b hb => List.mem_cons_of_mem _ (List.mem_cons_of_mem _ (p0 b hb)), p2⟩
      · cases h'
    | _ => cases h
  | _ => cases h
theorem base_ok {e : Expr} (h : baseOk e = true) (f : Str) (en : PySem.Env) : attributeBase e f en (eval e en) = eval e en := by
  unfold attributeBase
  split
  · rename_i id _ _
    have n : (id == ("super" : Str)) = false := by simpa [baseOk] using h
    have n2 : (id != ("super" : Str)) = true := by simp [bne, n]
    simp only [n2, Bool.true_or, if_true]
  · rfl
theorem plain_ix {b : Expr} (h : noSlice b = true) : PlainIx b := by
  intro o i
  cases b <;> first | rfl | cases h
theorem pe_cst {d : D} {c : Const} {k : Nat} {pos : Pos} (h : matchC d c = true) : PE X (.Constant c k pos) (fun σ H Q => ∀ y, (∀ F, Rep w F d y) → Q y H) := by
  cases d <;> cases c <;> first | (cases h; done) | skip
  · exact PE.imp pe_non fun σ H Q k => k _ fun _ => rfl
  · rw [eq_of_beq (show (_ == _) = true from h)]
    exact PE.imp pe_bl fun σ H Q k => k _ fun _ => rfl
  · rw [of_decide_eq_true (show decide _ = true from h)]
    exact PE.imp pe_int fun σ H Q k => k _ fun _ => rfl
  · rw [of_decide_eq_true (show decide _ = true from h)]
    exact PE.imp pe_str fun σ H Q k => k _ fun _ => rfl
theorem pix_plain {ki : PIx} {j : Expr} (h : matchIx g ki j = true) : noSlice j = true := by
  cases j <;> first | rfl | (cases ki <;> first | (cases h; done) | (rename_i d; cases d <;> cases h))
/-- an index -/
theorem pe_pix (C : Ctx X g w sg W) {ki : PIx} {j : Expr} (h : matchIx g ki j = true) : PE X j (fun σ H Q => ∃ env F B fps d, Sta w F B H σ env fps ∧ ki.get env = some d ∧ ∀ y, Rep w H d y → Q y H) := by
  cases ki with
  | cst d =>
    cases j <;> first | (cases d <;> cases h; done) | skip
    · rename_i op e pos
      cases op <;> cases e <;> first | (cases d <;> cases h; done) | skip
      rename_i c _ _
      cases c <;> first | (cases d <;> cases h; done) | skip
      cases d <;> first | (cases h; done) | skip
      rw [of_decide_eq_true (show decide _ = true from h)]
      exact PE.imp (pe_un un_neg pe_int) fun σ H Q ⟨env, F, B, fps, d', S, hd, k⟩ => ⟨_, rfl, by cases hd; exact k _ rfl⟩
    · exact PE.imp (pe_cst (w := w) h) fun σ H Q ⟨env, F, B, fps, d', S, hd, k⟩ y hy => by cases hd; exact k y (hy _)
  | var i =>
    cases j <;> first | (cases h; done) | skip
    rename_i x _
    obtain ⟨n1, n2, n3, n4⟩ := slot_ok C (show g.slot i x = true from h)
    refine PE.imp (pe_var n1 n2 n3 n4) fun σ H Q ⟨env, F, B, fps, d, S, hd, k⟩ => ?_
    have hd' : (match env[i]? with | some (some (_, d)) => if d.scal = true then some d else none | _ => none) = some d := hd
    split at hd'
    · rename_i s d' q
      obtain ⟨hc, hd'⟩ := ite_some hd'
      cases hd'
      obtain ⟨v, e1, r⟩ := S.sl i _ _ q
      exact ⟨v, e1, k v (RepS.scalar hc r)⟩
    · cases hd'
theorem pe_pl (C : Ctx X g w sg W) : ∀ {p : Pl} {e : Expr}, matchPl g p e = true → PE X e (tPl w sg.gd p)
  | .var i, .Name x pos, h => by
    obtain ⟨h1, h2, h3, h4⟩ := slot_ok C (show g.slot i x = true from h)
    refine PE.imp (pe_var h1 h2 h3 h4) fun σ H Q ⟨env, F, B, fps, x, S, hx, k⟩ => ?_
    have hx' : (match env[i]? with | some (some x) => some x | _ => none) = some x := hx
    split at hx'
    · rename_i y q
      cases hx'
      obtain ⟨v, e1, r⟩ := S.sl i x.1 x.2 q
      exact ⟨v, e1, k v ⟨fps i, r, fun a ha => ha⟩⟩
    · cases hx'
  | .attr p f, .Attribute e a pos, h => by
    obtain ⟨h1, h2⟩ := and2 (show (decide (a = g.fn f) && matchPl g p e) = true from h)
    have ea : a = w.fn f := (of_decide_eq_true h1).trans (C.gfn f)
    subst ea
    have hb : baseOk e = true := by
      cases p <;> cases e <;> first | rfl | cases h2
    refine PE.imp (pe_fld (pe_pl C h2) (base_ok hb _ _)) fun σ H Q ⟨env, F, B, fps, x, S, hx, k⟩ => ?_
    obtain ⟨⟨s, d⟩, q1, q2⟩ := Option.bind_eq_some_iff.mp (show ((p.get sg.gd env).bind fun x => attrOf sg.gd x f) = some x from hx)
    refine ⟨env, F, B, fps, (s, d), S, q1, fun v ⟨fp, r, hfp⟩ => ?_⟩
    obtain ⟨a, c, dx, ws, u, fq, e1, e2, e3, e4, e5, e6⟩ := attr_ok C.wok S.fh S.bh r q2
    obtain ⟨k1, k2⟩ := C.wok.cls c f e3
    rw [C.K]
    exact ⟨a, _, dx, ws, u, e1, e2, k1, k2, e4, k u ⟨fq, e6, fun b hb => hfp b (e5 b hb)⟩⟩
  | .ix p ki, .Subscript e j pos, h => by
    obtain ⟨h1, h2⟩ := and2 (show (matchPl g p e && matchIx g ki j) = true from h)
    refine PE.imp (pe_ix (ix_any (by have := C.un; omega)) (pe_pl C h1) (pe_pix C h2) (plain_ix (pix_plain h2))) fun σ H Q ⟨env, F, B, fps, x, S, hx, k⟩ => ?_
    obtain ⟨⟨s, d⟩, q1, q2⟩ := Option.bind_eq_some_iff.mp (show ((p.get sg.gd env).bind fun x => (ki.get env).bind fun d => itemOf x d) = some x from hx)
    obtain ⟨kd, q3, q4⟩ := Option.bind_eq_some_iff.mp q2
    refine ⟨env, F, B, fps, (s, d), S, q1, fun v ⟨fp, r, hfp⟩ => ⟨env, F, B, fps, kd, S, q3, fun y hy => ?_⟩⟩
    obtain ⟨u, fq, e1, e2, e3⟩ := item_ok S.fh S.bh r q4
    rw [C.K]
    exact e3 y Q hy (k u ⟨fq, e2, fun b hb => hfp b (e1 b hb)⟩)
end
end DI
/-! DI7b: operations as expressions. -/
namespace DI
open PySem L2
variable {F F' F1 F2 B B' H H' H1 H2 : Hp} {σ : L2.St} {env : Env} {fps fps' fps1 fps2 : Nat → List Addr}
section
variable {X : Cx} {g : Gam} {w : Wd} {sg : Sig} {cl : Calls} {W : WX}
theorem bin_ok (C : Ctx X g w sg W) {o : Op} {p : Operator} (h : opBin o = some p) : ∃ R : R2, OpV w o (Rtwo R) ∧ OpR X (binaryOp p) R := by
  cases o <;> first | (cases h; done) | skip <;> cases h
  · refine ⟨_, ov_add, ?_⟩
    rw [← C.K]
    exact op_add.or (op_add_str.or (op_cat.or op_catT))
  · exact ⟨_, ov_sub, op_sub⟩
  · exact ⟨_, ov_mul, op_mul.or (op_rep.or op_repS)⟩
  · exact ⟨_, ov_fdiv, op_fdivW⟩
  · exact ⟨_, ov_mod, op_mod⟩
  · exact ⟨_, ov_pow, op_pow⟩
  · exact ⟨_, ov_shl, op_shl⟩
  · exact ⟨_, ov_shr, op_shr⟩
  · exact ⟨_, ov_band, op_and⟩
  · exact ⟨_, ov_bor, op_or⟩
theorem cmp_ok (C : Ctx X g w sg W) {o : Op} {p : CmpOp} (h : opCmp o = some p) : ∃ R : R2, OpV w o (Rtwo R) ∧ OpR X (compareOp p) R := by
  have hu := C.un
  cases o <;> first | (cases h; done) | skip <;> cases h
  · exact ⟨_, ov_eq, by rw [← C.K]; exact op_eqD (by omega)⟩
  · exact ⟨_, ov_ne, by rw [← C.K]; exact op_neD (by omega)⟩
  · exact ⟨_, ov_lt, op_lt.or op_lt_str⟩
  · exact ⟨_, ov_le, op_le⟩
  · exact ⟨_, ov_gt, op_gt⟩
  · exact ⟨_, ov_ge, op_ge⟩
  · exact ⟨_, ov_isIn, by rw [← C.K]; exact op_inAll (by omega)⟩
  · exact ⟨_, ov_notIn, by rw [← C.K]; exact op_notInAll (by omega)⟩
/-- two operands, out of the reading -/
theorem app2 {o : Op} {a b : E} {R : R2} {Q : VK} (ov : OpV w o (Rtwo R)) (wf : wfEs sg true (.cons a (.cons b .nil)) = true) (h : tE w sg cl W (.app o (.cons a (.cons b .nil))) σ H Q) : tOp R (tE w sg cl W a) (tE w sg cl W b) σ H Q :=
  tE.mono (tEs_two wf (app_go ov h)) fun x H1 q => tE.mono q fun y H2 ⟨x', y', e, r⟩ => by
    cases e
    exact r
theorem app1 {o : Op} {a : E} {R : V → Hp → VK → Prop} {Q : VK} (ov : OpV w o (Rone R)) (wf : wfEs sg true (.cons a .nil) = true) (h : tE w sg cl W (.app o (.cons a .nil)) σ H Q) : tE w sg cl W a σ H fun x H1 => R x H1 Q :=
  tE.mono (tEs_one wf (app_go ov h)) fun x H1 ⟨x', e, r⟩ => by
    cases e
    exact r
theorem c_bin (C : Ctx X g w sg W) {o : Op} {p : Operator} {a b : E} {l r : Expr} {pos : Pos} (h : opBin o = some p) (wf : wfE sg (.app o (.cons a (.cons b .nil))) = true) (ha : PE X l (tE w sg cl W a)) (hb : PE X r (tE w sg cl W b)) :
    PE X (.BinOp l p r pos) (tE w sg cl W (.app o (.cons a (.cons b .nil)))) := by
  obtain ⟨R, h1, h2⟩ := bin_ok C h
  exact PE.imp (pe_op h2 ha hb) fun σ H Q q => app2 h1 wf q
theorem c_cmp (C : Ctx X g w sg W) {o : Op} {p : CmpOp} {a b : E} {l r : Expr} {pos : Pos} (h : opCmp o = some p) (hm : behindInMarks p r = false) (wf : wfE sg (.app o (.cons a (.cons b .nil))) = true) (ha : PE X l (tE w sg cl W a)) (hb : PE X r (tE w sg cl W b)) :
    PE X (.Compare l [p] [r] pos) (tE w sg cl W (.app o (.cons a (.cons b .nil)))) ∧ PT X (.Compare l [p] [r] pos) (tB (tE w sg cl W (.app o (.cons a (.cons b .nil))))) := by
  obtain ⟨R, h1, h2⟩ := cmp_ok C h
  exact ⟨PE.imp (pe_cmpR h2 ha hb hm) fun σ H Q q => app2 h1 wf q, PT.imp (pt_cmpR h2 ha hb hm) fun σ H Q q => app2 h1 wf q⟩
theorem c_isN (C : Ctx X g w sg W) {a : E} {l : Expr} {k : Nat} {p2 pos : Pos} (wf : wfE sg (.app .isN (.cons a .nil)) = true) (ha : PE X l (tE w sg cl W a)) :
    PE X (.Compare l [.Is] [.Constant .none k p2] pos) (tE w sg cl W (.app .isN (.cons a .nil))) ∧ PT X (.Compare l [.Is] [.Constant .none k p2] pos) (tB (tE w sg cl W (.app .isN (.cons a .nil)))) :=
  ⟨PE.imp (pe_cmpR op_isN ha pe_non rfl) fun σ H Q q => tE.mono (app1 ov_isN wf q) fun x H1 r => ⟨rfl, r⟩, PT.imp (pt_cmpR op_isN ha pe_non rfl) fun σ H Q q => tE.mono (app1 ov_isN wf q) fun x H1 r => ⟨rfl, r⟩⟩
theorem c_notN (C : Ctx X g w sg W) {a : E} {l : Expr} {k : Nat} {p2 pos : Pos} (wf : wfE sg (.app .notN (.cons a .nil)) = true) (ha : PE X l (tE w sg cl W a)) :
    PE X (.Compare l [.IsNot] [.Constant .none k p2] pos) (tE w sg cl W (.app .notN (.cons a .nil))) ∧ PT X (.Compare l [.IsNot] [.Constant .none k p2] pos) (tB (tE w sg cl W (.app .notN (.cons a .nil)))) :=
  ⟨PE.imp (pe_cmpR op_notN ha pe_non rfl) fun σ H Q q => tE.mono (app1 ov_notN wf q) fun x H1 r => ⟨rfl, r⟩, PT.imp (pt_cmpR op_notN ha pe_non rfl) fun σ H Q q => tE.mono (app1 ov_notN wf q) fun x H1 r => ⟨rfl, r⟩⟩
theorem c_neg {a : E} {l : Expr} {pos : Pos} (wf : wfE sg (.app .neg (.cons a .nil)) = true) (ha : PE X l (tE w sg cl W a)) : PE X (.UnaryOp .USub l pos) (tE w sg cl W (.app .neg (.cons a .nil))) :=
  PE.imp (pe_un un_neg ha) fun σ H Q q => app1 ov_neg wf q
theorem c_ix (C : Ctx X g w sg W) {a b : E} {l r : Expr} {pos : Pos} (hs : noSlice r = true) (wf : wfE sg (.app .ix (.cons a (.cons b .nil))) = true) (ha : PE X l (tE w sg cl W a)) (hb : PE X r (tE w sg cl W b)) :
    PE X (.Subscript l r pos) (tE w sg cl W (.app .ix (.cons a (.cons b .nil)))) :=
  PE.imp (pe_ix (ix_any (by have := C.un; omega)) ha hb (plain_ix hs)) fun σ H Q q => by
    rw [C.K]
    exact app2 ov_ix wf q
theorem c_sl00 (C : Ctx X g w sg W) {a : E} {l : Expr} {p2 pos : Pos} (wf : wfE sg (.app (.sl false false) (.cons a .nil)) = true) (ha : PE X l (tE w sg cl W a)) :
    PE X (.Subscript l (.Slice none none none p2) pos) (tE w sg cl W (.app (.sl false false) (.cons a .nil))) :=
  PE.imp (pe_slice slr_all ha po_none po_none) fun σ H Q q => by
    rw [C.K]
    exact app1 ov_sl00 wf q
theorem c_sl10 (C : Ctx X g w sg W) {a b : E} {l x : Expr} {p2 pos : Pos} (wf : wfE sg (.app (.sl true false) (.cons a (.cons b .nil))) = true) (ha : PE X l (tE w sg cl W a)) (hb : PE X x (tE w sg cl W b)) :
    PE X (.Subscript l (.Slice (some x) none none p2) pos) (tE w sg cl W (.app (.sl true false) (.cons a (.cons b .nil)))) :=
  PE.imp (pe_slice slr_all ha (po_some hb) po_none) fun σ H Q q => by
    rw [C.K]
    exact app2 ov_sl10 wf q
theorem c_sl01 (C : Ctx X g w sg W) {a b : E} {l x : Expr} {p2 pos : Pos} (wf : wfE sg (.app (.sl false true) (.cons a (.cons b .nil))) = true) (ha : PE X l (tE w sg cl W a)) (hb : PE X x (tE w sg cl W b)) :
    PE X (.Subscript l (.Slice none (some x) none p2) pos) (tE w sg cl W (.app (.sl false true) (.cons a (.cons b .nil)))) :=
  PE.imp (pe_slice slr_all ha po_none (po_some hb)) fun σ H Q q => by
    rw [C.K]
    exact app2 ov_sl01 wf q
theorem c_rev (C : Ctx X g w sg W) {a : E} {l : Expr} {k : Nat} {p1 p2 p3 pos : Pos} (wf : wfE sg (.app .rev (.cons a .nil)) = true) (ha : PE X l (tE w sg cl W a)) :
    PE X (.Subscript l (.Slice none none (some (.UnaryOp .USub (.Constant (.int 1) k p1) p2)) p3) pos) (tE w sg cl W (.app .rev (.cons a .nil))) :=
  PE.imp (pe_revL ha) fun σ H Q q => by
    rw [C.K]
    exact app1 ov_rev wf q
end
end DI
/-! DI7c: methods of texts and lists, calls of built-in functions. -/
namespace DI
open PySem L2
variable {F F' F1 F2 B B' H H' H1 H2 : Hp} {σ : L2.St} {env : Env} {fps fps' fps1 fps2 : Nat → List Addr}
section
variable {X : Cx} {g : Gam} {w : Wd} {sg : Sig} {cl : Calls} {W : WX}
/-- the end of a reading that made a new value -/
theorem cont_of {ef : List Nat} {Q : VK} {res : SD} {env' : Env} (S1 : Sta w F1 B H1 σ env' fps1) (T : Stp ef F H fps F1 H1 fps1)
    (q : ∀ v H' F' fps', Sta w F' B H' σ env' fps' → Stp ef F H fps F' H' fps' → VO w none ef H fps F' B H' fps' res v → Q v H') : Cont w F1 B H1 res Q := fun v H2 F2 fp eh ef' efh hf r hn nd =>
  q v H2 F2 fps1 (S1.new eh ef' efh hf) (T.trans (Stp.new S1 eh ef' efh hf)) ⟨fp, r, Kp.new S1 r hn nd, fun a ha => .inl (T.gone (hn a ha).1)⟩
theorem opt_ok {α : Type} {o : Option α} {e : Env} {r : Out α} (h : M.opt o e = some r) : ∃ a, o = some a ∧ r = .ok a e := by
  obtain ⟨a, h1, h2⟩ := Option.map_eq_some_iff.mp (show o.map (fun a => Out.ok a e) = some r from h)
  exact ⟨a, h1, h2.symm⟩
theorem mem_l {a b : List Nat} : ∀ i ∈ a, i ∈ a ++ b := fun i h => List.mem_append_left _ h
theorem mem_r {a b : List Nat} : ∀ i ∈ b, i ∈ a ++ b := fun i h => List.mem_append_right _ h
theorem bm_go {o : Op} {a : E} {as : Es} {R : V → List V → Hp → VK → Prop} {T : String} {Q : VK} (ov : OpV w o (fun vs H Q => ∃ x xs, vs = x :: xs ∧ R x xs H Q)) (wf : out a.root (effEs sg as) = true)
    (ht : ∀ (x : SD) (v : V) (F B H : Hp), recvOk o x.2 = true → Ex F H → Ex B H → (∃ fp, RepS w F B H x.2 x.1 v fp) → tyV w.K T v H)
    (h : tE w sg cl W (.bm o a as) σ H Q) : tBM w.K T R (tE w sg cl W a) (tEs w sg cl W as) σ H Q := by
  obtain ⟨env, F, B, fps, r, S, he, q⟩ := h
  rcases bind_ok he with ⟨x, env1, h1, h2⟩ | ⟨c, fs, env1, h1, rfl⟩
  · refine ⟨env, F, B, fps, _, S, h1, fun v H1 F1 fps1 S1 T1 V1 => ?_⟩
    have h2' : (if recvOk o x.2 = true then M.bind (evs sg cl as) fun ys => M.opt (sem o (x :: ys)) else M.stuck) env1 = some r := h2
    by_cases hc : recvOk o x.2 = true
    · rw [if_pos hc] at h2'
      refine ⟨ht x v F1 B H1 hc S1.fh S1.bh (V1.elim fun fp z => ⟨fp, z.1⟩), ?_⟩
      rcases bind_ok h2' with ⟨ys, env2, h3, h4⟩ | ⟨c, fs, env2, h3, rfl⟩
      · refine ⟨env1, F1, B, fps1, _, S1, h3, fun vs H2 F2 fps2 S2 T2 V2 => ?_⟩
        obtain ⟨res, hs, rfl⟩ := opt_ok h4
        obtain ⟨y, yr, e, z⟩ := ov (x :: ys) res (v :: vs) F2 B H2 Q hs ⟨v, vs, rfl, RepA.keep S1 V1 (out_ok wf) T2, V2⟩ S2.fh S2.bh (cont_of S2 ((T1.weak mem_l).trans (T2.weak mem_r)) q)
        cases e
        exact z
      · exact ⟨env1, F1, B, fps1, _, S1, h3, fun cls dx H2 F2 fps2 S2 T2 x2 => q cls dx H2 F2 fps2 S2 ((T1.weak mem_l).trans (T2.weak mem_r)) x2⟩
    · rw [if_neg hc] at h2'
      cases h2'
  · exact ⟨env, F, B, fps, _, S, h1, fun cls dx H1 F1 fps1 S1 T1 x1 => q cls dx H1 F1 fps1 S1 (T1.weak mem_l) x1⟩
theorem chn_go {o p : Op} {a b c : E} {R R' : R2} {Q : VK} (ov : OpV w o (Rtwo R)) (ov' : OpV w p (Rtwo R')) (wf1 : out a.root (effE sg b) = true) (wf2 : out b.root (effE sg c) = true)
    (h : tE w sg cl W (.chn o p a b c) σ H Q) : tChain R R' (tE w sg cl W a) (tE w sg cl W b) (tE w sg cl W c) σ H Q := by
  have m1 : ∀ i ∈ effE sg a, i ∈ effE sg (.chn o p a b c) := fun i hi => List.mem_append_left _ hi
  have m2 : ∀ i ∈ effE sg b, i ∈ effE sg (.chn o p a b c) := fun i hi => List.mem_append_right _ (List.mem_append_left _ hi)
  have m3 : ∀ i ∈ effE sg c, i ∈ effE sg (.chn o p a b c) := fun i hi => List.mem_append_right _ (List.mem_append_right _ hi)
  obtain ⟨env, F, B, fps, r, S, he, q⟩ := h
  rcases bind_ok he with ⟨x, env1, h1, h2⟩ | ⟨c, fs, env1, h1, rfl⟩
  · refine ⟨env, F, B, fps, _, S, h1, fun v H1 F1 fps1 S1 T1 V1 => ?_⟩
    rcases bind_ok h2 with ⟨y, env2, h3, h4⟩ | ⟨c, fs, env2, h3, rfl⟩
    · refine ⟨env1, F1, B, fps1, _, S1, h3, fun u H2 F2 fps2 S2 T2 V2 => ?_⟩
      obtain ⟨z, e5, h5, h6⟩ : ∃ z e5, M.opt (sem o [x, y]) env2 = some (.ok z e5) ∧ _ := by
        rcases bind_ok h4 with ⟨z, e5, h5, h6⟩ | ⟨_, _, _, h5, _⟩
        · exact ⟨z, e5, h5, h6⟩
        · obtain ⟨_, _, z⟩ := opt_ok h5
          cases z
      obtain ⟨z', hs, e⟩ := opt_ok h5
      cases e
      have T12 := (T1.weak m1).trans (T2.weak m2)
      -- the first comparison
      have k1 : Cont w F2 B H2 z fun z' H3 => ∃ k, z' = V.bl k ∧ (if k = true then tE w sg cl W c σ H3 fun w' H4 => R' u w' H4 Q else Q (.bl false) H3) := by
        refine fun v' H3 F3 fp eh ef' efh hf rr hn nd => ?_
        have S3 := S2.new eh ef' efh hf
        have T3 := T12.trans (Stp.new S2 eh ef' efh hf)
        obtain ⟨k, hk, h7⟩ : ∃ k, truth z = some k ∧ (if k = true then M.bind (ev sg cl c) fun z => M.opt (sem p [y, z]) else M.pure (Sh.frz, D.bl false)) env2 = some r := by
          rcases bind_ok h6 with ⟨k, e7, h7, h8⟩ | ⟨_, _, _, h7, _⟩
          · obtain ⟨k', e', e8⟩ := opt_ok h7
            cases e8
            exact ⟨k, e', h8⟩
          · obtain ⟨_, _, z⟩ := opt_ok h7
            cases z
        obtain ⟨rs, rd⟩ := z
        cases rd <;> first | (cases hk; done) | skip
        cases hk
        refine ⟨_, RepS.scalar (F' := F3) rfl rr, ?_⟩
        split
        · rename_i hkt
          subst hkt
          have h7' : M.bind (ev sg cl c) (fun z => M.opt (sem p [y, z])) env2 = some r := h7
          rcases bind_ok h7' with ⟨z, e9, h8, h9⟩ | ⟨c', fs, e9, h8, rfl⟩
          · refine ⟨env2, F3, B, fps2, _, S3, h8, fun w' H4 F4 fps4 S4 T4 V4 => ?_⟩
            obtain ⟨res2, hs2, rfl⟩ := opt_ok h9
            have keepU : ∃ fp, RepS w F3 B H3 y.2 y.1 u fp := by
              obtain ⟨fq, rq, kq⟩ := V2
              exact ⟨fq, RepS.mono ef' (ex_refl B) (fun a xs q => eh a _ q) _ _ _ _ (fun a o _ q => eh a o q) rq⟩
            have V3 : VO w b.root (effE sg b) H1 fps1 F3 B H3 fps2 y u := by
              obtain ⟨fq, rq, kq⟩ := V2
              refine ⟨fq, RepS.mono ef' (ex_refl B) (fun a xs q => eh a _ q) _ _ _ _ (fun a o _ q => eh a o q) rq, ?_⟩
              revert kq
              cases b.root with
              | some i => exact id
              | none => exact fun ⟨k1, k2⟩ => ⟨k1.step (Stp.new (ef := []) S2 eh ef' efh hf), k2⟩
            obtain ⟨y', z', e, zz⟩ := ov' [y, z] res2 [u, w'] F4 B H4 Q hs2 ⟨u, [w'], rfl, RepA.keep S3 V3 (out_ok wf2) T4, w', [], rfl, V4.elim (fun fp z => ⟨fp, z.1⟩), rfl⟩ S4.fh S4.bh (cont_of S4 (T3.trans (T4.weak m3)) q)
            cases e
            exact zz
          · exact ⟨env2, F3, B, fps2, _, S3, h8, fun cls dx H4 F4 fps4 S4 T4 x4 => q cls dx H4 F4 fps4 S4 (T3.trans (T4.weak m3)) x4⟩
        · rename_i hkt
          have h7' : M.pure (Sh.frz, D.bl false) env2 = some r := by
            rw [if_neg hkt] at h7
            exact h7
          cases h7'
          exact q _ H3 F3 fps2 S3 T3 ⟨[], RepS_frz.mpr ⟨rfl, rfl⟩, Kp.nil, Fr.nil⟩
      obtain ⟨x', y', e, z⟩ := ov [x, y] z [v, u] F2 B H2 _ hs ⟨v, [u], rfl, RepA.keep S1 V1 (out_ok wf1) T2, u, [], rfl, V2.elim (fun fp z => ⟨fp, z.1⟩), rfl⟩ S2.fh S2.bh k1
      cases e
      exact z
    · exact ⟨env1, F1, B, fps1, _, S1, h3, fun cls dx H2 F2 fps2 S2 T2 x2 => q cls dx H2 F2 fps2 S2 ((T1.weak m1).trans (T2.weak m2)) x2⟩
  · exact ⟨env, F, B, fps, _, S, h1, fun cls dx H1 F1 fps1 S1 T1 x1 => q cls dx H1 F1 fps1 S1 (T1.weak m1) x1⟩
theorem sl2_go {a b c : E} {Q : VK} (wf : wfE sg (.sl2 a b c) = true) (h : tE w sg cl W (.sl2 a b c) σ H Q) : L2.tSl (rSl w.K) (tE w sg cl W a) (tPart (tE w sg cl W b)) (tPart (tE w sg cl W c)) σ H Q := by
  have m1 : ∀ i ∈ effE sg a, i ∈ effE sg (.sl2 a b c) := fun i hi => List.mem_append_left _ hi
  have m2 : ∀ i ∈ effE sg b, i ∈ effE sg (.sl2 a b c) := fun i hi => List.mem_append_right _ (List.mem_append_left _ hi)
  have m3 : ∀ i ∈ effE sg c, i ∈ effE sg (.sl2 a b c) := fun i hi => List.mem_append_right _ (List.mem_append_right _ hi)
  obtain ⟨_, wf⟩ := and2 (show (wfE sg a && (wfE sg b && (wfE sg c && (out a.root (effE sg b ++ effE sg c) && out b.root (effE sg c))))) = true from wf)
  obtain ⟨_, wf⟩ := and2 wf
  obtain ⟨_, wf⟩ := and2 wf
  obtain ⟨wf1, wf2⟩ := and2 wf
  have n1 := out_ok wf1
  obtain ⟨env, F, B, fps, r, S, he, q⟩ := h
  rcases bind_ok he with ⟨x, env1, h1, h2⟩ | ⟨c, fs, env1, h1, rfl⟩
  · refine ⟨env, F, B, fps, _, S, h1, fun v H1 F1 fps1 S1 T1 V1 => ?_⟩
    rcases bind_ok h2 with ⟨y, env2, h3, h4⟩ | ⟨c, fs, env2, h3, rfl⟩
    · refine ⟨env1, F1, B, fps1, _, S1, h3, fun u H2 F2 fps2 S2 T2 V2 => ?_⟩
      obtain ⟨ys, yd⟩ := y
      cases yd <;> first | (cases h4; done) | skip
      rename_i i
      have eu : u = .int i := V2.elim fun fp z => RepS.scalar (F' := F2) rfl z.1
      subst eu
      refine ⟨i, rfl, ?_⟩
      have h4' : M.bind (ev sg cl c) (fun z => M.opt (sem (.sl true true) [x, (ys, D.int i), z])) env2 = some r := h4
      have T12 := (T1.weak m1).trans (T2.weak m2)
      rcases bind_ok h4' with ⟨z, env3, h5, h6⟩ | ⟨c, fs, env3, h5, rfl⟩
      · refine ⟨env2, F2, B, fps2, _, S2, h5, fun u2 H3 F3 fps3 S3 T3 V3 => ?_⟩
        obtain ⟨zs, zd⟩ := z
        obtain ⟨res, hs, rfl⟩ := opt_ok h6
        cases zd <;> first | (obtain ⟨s, d⟩ := x; cases hs; done) | skip
        rename_i j
        have eu : u2 = .int j := V3.elim fun fp z => RepS.scalar (F' := F3) rfl z.1
        subst eu
        refine ⟨j, rfl, ?_⟩
        have k1 : ∃ fp, RepS w F3 B H3 x.2 x.1 v fp := RepA.keep S1 V1 n1 ((T2.weak mem_l).trans (T3.weak mem_r))
        exact slice_ok S3.fh S3.bh k1 hs (cont_of S3 (T12.trans (T3.weak m3)) q)
      · exact ⟨env2, F2, B, fps2, _, S2, h5, fun cls dx H3 F3 fps3 S3 T3 x3 => q cls dx H3 F3 fps3 S3 (T12.trans (T3.weak m3)) x3⟩
    · exact ⟨env1, F1, B, fps1, _, S1, h3, fun cls dx H2 F2 fps2 S2 T2 x2 => q cls dx H2 F2 fps2 S2 ((T1.weak m1).trans (T2.weak m2)) x2⟩
  · exact ⟨env, F, B, fps, _, S, h1, fun cls dx H1 F1 fps1 S1 T1 x1 => q cls dx H1 F1 fps1 S1 (T1.weak m1) x1⟩
end
end DI
/-! DI7d: values kept: moved, frozen, put into containers. -/
namespace DI
open PySem L2
variable {F F' F1 F2 B B' H H' H1 H2 : Hp} {σ : L2.St} {env : Env} {fps fps' fps1 fps2 : Nat → List Addr}
section
variable {X : Cx} {g : Gam} {w : Wd} {sg : Sig} {cl : Calls} {W : WX}
/-! ### a slot given up -/
def drp (fps : Nat → List Addr) (i : Nat) : Nat → List Addr := fun j => if j = i then [] else fps j
theorem drp_same {i : Nat} : drp fps i i = [] := if_pos rfl
theorem drp_ne {i j : Nat} (h : j ≠ i) : drp fps i j = fps j := if_neg h
theorem drp_mem {i j : Nat} {a : Addr} (h : a ∈ drp fps i j) : j ≠ i ∧ a ∈ fps j := by
  unfold drp at h
  split at h
  · cases h
  · exact ⟨by assumption, h⟩
theorem Sta.drop (S : Sta w F B H σ env fps) (i : Nat) : Sta w F B H σ (env.set i none) (drp fps i) := by
  refine ⟨S.fh, S.bh, by rw [List.length_set]; exact S.ln, fun j s d e => ?_, fun j a ha => S.nf j a (drp_mem ha).2, fun j a ha => S.hd j a (drp_mem ha).2, fun j => ?_, fun j k a h1 h2 => S.sp j k a (drp_mem h1).2 (drp_mem h2).2, S.io⟩
  · by_cases hj : j = i
    · subst hj
      rw [List.getElem?_set] at e
      simp at e
    · rw [List.getElem?_set_ne (fun z => hj z.symm)] at e
      rw [drp_ne hj]
      exact S.sl j s d e
  · by_cases hj : j = i
    · subst hj
      rw [drp_same]
      exact List.nodup_nil
    · rw [drp_ne hj]
      exact S.nd j
theorem Stp.drop (e : Ex F H) (i : Nat) : Stp [i] F H fps F H (drp fps i) := by
  refine ⟨ex_refl F, e, fun a o h => .inl h, fun a o h _ => h, fun a h => h, fun j hj => drp_ne fun z => hj (by rw [z]; exact List.mem_singleton.mpr rfl), fun j hj a ha => ?_⟩
  obtain ⟨h1, h2⟩ := drp_mem ha
  exact absurd (List.mem_singleton.mp hj) h1
theorem Kp.drop (S : Sta w F B H σ env fps) (i : Nat) : Kp F B H (drp fps i) (fps i) := by
  refine ⟨S.nd i, S.nf i, S.hd i, fun a ha j hj => ?_⟩
  obtain ⟨h1, h2⟩ := drp_mem hj
  exact h1 (S.sp j i a h2 ha)
/-- a slot takes a shared thing -/
theorem Sta.shared (S : Sta w F B H σ env fps) {i : Nat} {d : D} {v : V} (h0 : fps i = []) (hv : σ[i]? = some (some v)) (r : Rep w F d v) : Sta w F B H σ (env.set i (some (.frz, d))) fps := by
  refine ⟨S.fh, S.bh, by rw [List.length_set]; exact S.ln, fun j s d' e => ?_, S.nf, S.hd, S.nd, S.sp, S.io⟩
  by_cases hj : j = i
  · subst hj
    rw [List.getElem?_set] at e
    simp only [if_true] at e
    split at e
    · cases e
      exact ⟨v, hv, by rw [h0]; exact RepS_frz.mpr ⟨r, rfl⟩⟩
    · cases e
  · rw [List.getElem?_set_ne (fun z => hj z.symm)] at e
    exact S.sl j s d' e
theorem Fr.drop {i : Nat} : Fr [i] H fps (fps i) := fun a ha => .inr ⟨i, List.mem_singleton.mpr rfl, ha⟩
theorem getV_ok {i : Nat} {r : Out SD} (h : getV i env = some r) : ∃ x, env[i]? = some (some x) ∧ r = .ok x env := by
  have h' : (match env[i]? with | some (some x) => some (Out.ok x env) | _ => none) = some r := h
  split at h'
  · rename_i x q
    cases h'
    exact ⟨x, q, rfl⟩
  · cases h'
theorem setV_ok {i : Nat} {x : Option SD} {r : Out Unit} (h : setV i x env = some r) : r = .ok () (env.set i x) := (Option.some.inj h).symm
theorem isB_eq {s : Sh} (h : s.isB = true) : s = .bor := by
  cases s <;> first | rfl | cases h
theorem pure_ok {α : Type} {a : α} {r : Out α} (h : M.pure a env = some r) : r = .ok a env := (Option.some.inj h).symm
theorem c_mv (C : Ctx X g w sg W) {i : Nat} {x : Str} {pos : Pos} (h : g.slot i x = true) : PE X (.Name x pos) (tE w sg cl W (.mv i)) := by
  obtain ⟨n1, n2, n3, n4⟩ := slot_ok C h
  refine PE.imp (pe_var n1 n2 n3 n4) fun σ H Q ⟨env, F, B, fps, r, S, he, q⟩ => ?_
  rcases bind_ok he with ⟨⟨s, d⟩, env1, h1, h2⟩ | ⟨c, fs, env1, h1, rfl⟩
  · obtain ⟨y, hy, e⟩ := getV_ok h1
    cases e
    obtain ⟨v, e1, r1⟩ := S.sl i s d hy
    refine ⟨v, e1, ?_⟩
    split at h2
    · split at h2
      · rename_i hs
        cases pure_ok h2
        exact q v H F fps S (Stp.refl S.fh) ⟨[], RepS_frz.mpr ⟨RepS.scalar hs r1, rfl⟩, Kp.nil, Fr.nil⟩
      · cases h2
    · rcases bind_ok h2 with ⟨_, env2, h3, h4⟩ | ⟨_, _, _, h3, _⟩
      · cases setV_ok h3
        cases pure_ok h4
        exact q v H F (drp fps i) (S.drop i) (Stp.drop S.fh i) ⟨fps i, r1, Kp.drop S i, Fr.drop⟩
      · cases setV_ok h3
  · obtain ⟨_, _, e⟩ := getV_ok h1
    cases e
theorem c_fz (C : Ctx X g w sg W) {i : Nat} {x : Str} {pos : Pos} (h : g.slot i x = true) : PE X (.Name x pos) (tE w sg cl W (.fz i)) := by
  obtain ⟨n1, n2, n3, n4⟩ := slot_ok C h
  refine PE.imp (pe_var n1 n2 n3 n4) fun σ H Q ⟨env, F, B, fps, r, S, he, q⟩ => ?_
  rcases bind_ok he with ⟨⟨s, d⟩, env1, h1, h2⟩ | ⟨c, fs, env1, h1, rfl⟩
  · obtain ⟨y, hy, e⟩ := getV_ok h1
    cases e
    obtain ⟨v, e1, r1⟩ := S.sl i s d hy
    refine ⟨v, e1, ?_⟩
    split at h2
    · split at h2
      · rename_i hs
        cases pure_ok h2
        exact q v H F fps S (Stp.refl S.fh) ⟨[], RepS_frz.mpr ⟨RepS.scalar hs r1, rfl⟩, Kp.nil, Fr.nil⟩
      · cases h2
    · obtain ⟨hn, h2⟩ : noB s = true ∧ (M.bind (setV i (some (Sh.frz, d))) fun _ => M.pure (Sh.frz, d)) env = some r := by
        split at h2
        · exact ⟨by assumption, h2⟩
        · cases h2
      rcases bind_ok h2 with ⟨_, env2, h3, h4⟩ | ⟨_, _, _, h3, _⟩
      · cases setV_ok h3
        cases pure_ok h4
        obtain ⟨fz, z1, z2⟩ := frzS d s v (fps i) hn r1
        have rep := z2 (grow F H fz) (grow_ex S.fh fz) fun a ha => grow_at ha
        have S1 := S.drop i
        have S2 := Sta.cut S1 z1 (Kp.drop S i).ds
        have S3 := Sta.shared S2 drp_same e1 rep
        rw [List.set_set] at S3
        exact q v H (grow F H fz) (drp fps i) S3 (Stp.cut (Stp.drop S.fh i) z1 Fr.drop) ⟨[], RepS_frz.mpr ⟨rep, rfl⟩, Kp.nil, Fr.nil⟩
      · cases setV_ok h3
  · obtain ⟨_, _, e⟩ := getV_ok h1
    cases e
theorem c_cst {d : D} {c : Const} {k : Nat} {pos : Pos} (h : matchC d c = true) : PE X (.Constant c k pos) (tE w sg cl W (.cst d)) :=
  PE.imp (pe_cst (w := w) h) fun σ H Q ⟨env, F, B, fps, r, S, he, q⟩ y hy => by
    cases pure_ok he
    exact q y H F fps S (Stp.refl S.fh) ⟨[], RepS_frz.mpr ⟨hy F, rfl⟩, Kp.nil, Fr.nil⟩
theorem c_glo (C : Ctx X g w sg W) {x y : Str} {d : D} {pos : Pos} (h : g.glo x y = true) (hc : (match g.con x with | some e => eqSc d e | none => false) = true) : PE X (.Name y pos) (tE w sg cl W (.glo x d)) := by
  obtain ⟨rfl, h2, h3, h4⟩ := glo_ok C (y := x) (x := y) (by
    obtain ⟨q, q3⟩ := and2 h
    obtain ⟨q1, q2⟩ := and2 q
    have e : x = y := of_decide_eq_true q1
    subst e
    exact h)
  split at hc
  · rename_i e he
    have ed := eqSc_ok hc
    subst ed
    obtain ⟨v, u, m1, m2, m3, m4⟩ := C.con _ _ he
    exact PE.imp (pe_glob h2 m1 m2 h3) fun σ H Q ⟨env, F, B, fps, r, S, he, q⟩ => by
      cases pure_ok he
      exact q v H F fps S (Stp.refl S.fh) ⟨[], RepS_frz.mpr ⟨m4 F, rfl⟩, Kp.nil, Fr.nil⟩
  · cases hc
/-! ### items kept -/
def KpG (kp : E → SD → Option SD) : Prop := ∀ (e : E) (x y : SD), kp e x = some y → (e.place = true → (y.1 = .frz ∨ y.1 = .bor) ∧ ∃ z, share x = some z ∧ (y = z ∨ (z.1 = .frz ∧ y = z))) ∧ (e.place = false → y.2 = x.2 ∧ ((y = x ∨ wk x.1 y.1 = true) ∨ (x.2.scal = true ∧ y.1 = .frz)))
theorem kpK : KpG keepK := fun e x y h => by
  refine ⟨fun hp => ?_, fun hp => ?_⟩
  · have h' : share x = some y := by
      unfold keepK at h
      rw [hp] at h
      exact h
    refine ⟨?_, y, h', .inl rfl⟩
    obtain ⟨s, d⟩ := x
    obtain ⟨t, e⟩ := y
    cases s <;> first | (cases h'; exact .inl rfl) | skip
    · have h2 : some ((if d.scal then Sh.frz else Sh.bor), d) = some (t, e) := h'
      cases h2
      split
      · exact .inl rfl
      · exact .inr rfl
    all_goals
      have h2 : (if d.scal = true then some (Sh.frz, d) else none) = some (t, e) := h'
      split at h2
      · cases h2
        exact .inl rfl
      · cases h2
  · unfold keepK at h
    rw [hp] at h
    cases h
    exact ⟨rfl, .inl (.inl rfl)⟩
theorem take_keep {e : E} {x y : SD} (h : take e x = some y) : keepK e x = some y ∧ y.1.isB = false := by
  unfold take at h
  unfold keepK
  generalize (if e.place = true then share x else some x) = o at h ⊢
  split at h
  · cases h
  · rename_i z hz
    refine ⟨h, ?_⟩
    cases o with
    | none => cases h
    | some y' =>
      cases h
      obtain ⟨s, d⟩ := y
      cases s <;> first | rfl | exact (hz d rfl).elim
theorem kpT : KpG take := fun e x y h => kpK e x y (take_keep h).1
theorem wk_frz {t : Sh} (h : wk .frz t = true) : t = .frz := by
  cases t <;> first | rfl | cases h
theorem kpA (t : Sh) : KpG (takeAs t) := fun e x y h => by
  unfold takeAs at h
  split at h
  · rename_i s d q
    obtain ⟨hc, h⟩ := ite_some h
    cases h
    obtain ⟨k1, k2⟩ := take_keep q
    obtain ⟨a1, a2⟩ := kpK e x (s, d) k1
    refine ⟨fun hp => ?_, fun hp => ?_⟩
    · obtain ⟨b1, z, b2, b3⟩ := a1 hp
      have hs : s = .frz := by
        rcases b1 with b1 | b1
        · exact b1
        · have b1' : s = .bor := b1
          subst b1'
          cases k2
      subst hs
      have et := wk_frz hc
      subst et
      exact ⟨.inl rfl, z, b2, .inl (by rcases b3 with b3 | b3; exact b3; exact b3.2)⟩
    · obtain ⟨b1, b2⟩ := a2 hp
      rcases b2 with b2 | b2
      · unfold take at q
        rw [hp] at q
        have : x = (s, d) := by
          split at q
          · cases q
          · exact Option.some.inj q
        subst this
        exact ⟨rfl, .inl (.inr hc)⟩
      · unfold take at q
        rw [hp] at q
        have : x = (s, d) := by
          split at q
          · cases q
          · exact Option.some.inj q
        subst this
        exact ⟨rfl, .inl (.inr hc)⟩
  · cases h
theorem kpS (t : Sh) : KpG (keepT t) := fun e x y h => by
  unfold keepT at h
  split at h
  · rename_i hs
    cases h
    refine ⟨fun _ => ⟨.inl rfl, (.frz, x.2), ?_, .inl rfl⟩, fun _ => ⟨rfl, .inr ⟨hs, rfl⟩⟩⟩
    obtain ⟨s, d⟩ := x
    have hs' : d.scal = true := hs
    cases s <;> first | rfl | exact if_pos hs' | skip
    show some ((if d.scal = true then Sh.frz else Sh.bor), d) = _
    rw [if_pos hs']
  · exact kpA t e x y h
theorem root_place {e : E} : e.root = none ↔ e.place = false := by
  cases e <;> simp [E.root, E.place]
/-- it is held as it is to be held -/
theorem keep_ok {kp : E → SD → Option SD} (K : KpG kp) {e : E} {x y : SD} (hk : kp e x = some y) {ef : List Nat} {v : V} {env' : Env} (S : Sta w F1 B H1 σ env' fps1) (T : Stp ef F H fps F1 H1 fps1) (V : VO w e.root ef H fps F1 B H1 fps1 x v) :
    ∃ F2 f1, Sta w F2 B H1 σ env' fps1 ∧ Stp ef F H fps F2 H1 fps1 ∧ RepS w F2 B H1 y.2 y.1 v f1 ∧ Kp F2 B H1 fps1 f1 ∧ Fr ef H fps f1 := by
  obtain ⟨k1, k2⟩ := K e x y hk
  obtain ⟨fp, r, q⟩ := V
  cases hp : e.place with
  | true =>
    obtain ⟨_, z, hz, hy⟩ := k1 hp
    obtain ⟨s, d⟩ := x
    obtain ⟨t, d'⟩ := z
    obtain ⟨rfl, r2, _⟩ := share_ok hz r
    have hy' : y = (t, d') := by rcases hy with hy | hy; exact hy; exact hy.2
    subst hy'
    exact ⟨F1, [], S, T, r2, Kp.nil, Fr.nil⟩
  | false =>
    have hr := root_place.mpr hp
    rw [hr] at q
    obtain ⟨q1, q2⟩ := q
    obtain ⟨e1, e2⟩ := k2 hp
    rcases e2 with (e2 | e2) | e2
    · subst e2
      exact ⟨F1, fp, S, T, r, q1, q2⟩
    rotate_left
    · obtain ⟨ys, yd⟩ := y
      obtain ⟨hs, e3⟩ := e2
      have e1' : yd = x.2 := e1
      have e3' : ys = .frz := e3
      subst e1' e3'
      exact ⟨F1, [], S, T, RepS_frz.mpr ⟨RepS.scalar hs r, rfl⟩, Kp.nil, Fr.nil⟩
    · obtain ⟨f1, fz, c, z⟩ := wkS x.2 x.1 y.1 v fp e2 r
      refine ⟨grow F1 H1 fz, f1, Sta.cut S c.2.1 q1.ds, Stp.cut T c.2.1 q2, ?_, Kp.cut q1 c, fun a ha => q2 a (c.1.subset ha)⟩
      rw [e1]
      exact z _ (grow_ex S.fh fz) fun a ha => grow_at ha
/-! ### rows of kept values -/
def tG (w : Wd) (sg : Sig) (cl : Calls) (W : WX) (kp : E → SD → Option SD) (as : Es) : TA := fun σ H Q => ∃ env F B fps r, Sta w F B H σ env fps ∧ evG sg cl kp as env = some r ∧ match r with
  | .ok xs env' => ∀ vs H' F' fps' fp, Sta w F' B H' σ env' fps' → Stp (effEs sg as) F H fps F' H' fps' → RepSu w F' B H' (xs.map (·.2)) (xs.map (·.1)) vs fp → Kp F' B H' fps' fp → Fr (effEs sg as) H fps fp → Q vs H'
  | .ex c fs env' => ∀ cls dx H' F' fps', Sta w F' B H' σ env' fps' → Stp (effEs sg as) F H fps F' H' fps' → ExR w c fs cls dx F' → W cls dx σ H'
theorem tG_nil {kp : E → SD → Option SD} {Q : List V → Hp → Prop} (h : tG w sg cl W kp .nil σ H Q) : tNil σ H Q := by
  obtain ⟨env, F, B, fps, r, S, e, q⟩ := h
  have e' : some (Out.ok [] env) = some r := e
  cases e'
  exact q [] H F fps [] S (Stp.refl S.fh) ⟨rfl, rfl⟩ Kp.nil Fr.nil
theorem Held.some {a : Addr} (h : Held H a) : H a ≠ none := fun z => by
  obtain ⟨o, e, _⟩ := h
  rw [z] at e
  cases e
/-- two groups beside each other -/
theorem Kp.app {ef : List Nat} {f1 f2 : List Addr} (k1 : Kp F1 B H1 fps1 f1) (T : Stp ef F1 H1 fps1 F2 H2 fps2) (k2 : Kp F2 B H2 fps2 f2) (f : Fr ef H1 fps1 f2) : Kp F2 B H2 fps2 (f1 ++ f2) := by
  have k3 := k1.step T
  refine ⟨List.nodup_append.mpr ⟨k3.nd, k2.nd, fun a ha b hb e => ?_⟩, fun a ha => ?_, fun a ha => ?_, fun a ha => ?_⟩
  · subst e
    rcases f a hb with z | ⟨j, _, z⟩
    · exact (k1.hd a ha).some z
    · exact k1.ds a ha j z
  all_goals
    rcases List.mem_append.mp ha with h | h
  · exact k3.nf a h
  · exact k2.nf a h
  · exact k3.hd a h
  · exact k2.hd a h
  · exact k3.ds a h
  · exact k2.ds a h
theorem Fr.app {ef : List Nat} {f1 f2 : List Addr} (h1 : Fr ef H fps f1) (h2 : Fr ef H fps f2) : Fr ef H fps (f1 ++ f2) := fun a ha => (List.mem_append.mp ha).elim (h1 a) (h2 a)
theorem tG_cons {kp : E → SD → Option SD} (K : KpG kp) {e : E} {es : Es} {Q : List V → Hp → Prop} (h : tG w sg cl W kp (.cons e es) σ H Q) : tCons (tE w sg cl W e) (tG w sg cl W kp es) σ H Q := by
  obtain ⟨env, F, B, fps, r, S, he, q⟩ := h
  have s1 : ∀ i ∈ effE sg e, i ∈ effE sg e ++ effEs sg es := mem_l
  have s2 : ∀ i ∈ effEs sg es, i ∈ effE sg e ++ effEs sg es := mem_r
  rcases bind_ok he with ⟨x, env1, h1, h2⟩ | ⟨c, fs, env1, h1, rfl⟩
  · refine ⟨env, F, B, fps, _, S, h1, fun v H1 F1 fps1 S1 T1 V1 => ?_⟩
    rcases bind_ok h2 with ⟨y, env2, h3, h4⟩ | ⟨c, fs, env2, h3, rfl⟩
    · obtain ⟨y', hk, e'⟩ := opt_ok h3
      cases e'
      obtain ⟨F2, f1, S2, T2, R2, K2, Fr2⟩ := keep_ok K hk S1 T1 V1
      rcases bind_ok h4 with ⟨xs, env3, h5, h6⟩ | ⟨c, fs, env3, h5, rfl⟩
      · cases pure_ok h6
        refine ⟨_, F2, B, fps1, _, S2, h5, fun vs H3 F3 fps3 fp S3 T3 R3 K3 Fr3 => ?_⟩
        refine q (v :: vs) H3 F3 fps3 (f1 ++ fp) S3 ((T2.weak s1).trans (T3.weak s2)) ⟨v, vs, f1, fp, rfl, rfl, T3.keep S2 (fun a ha i _ => K2.ds a ha i) R2, R3⟩ (K2.app T3 K3 Fr3) (Fr.app (Fr2.weak s1) (Fr.back (T2.weak s1) (Fr3.weak s2)))
      · exact ⟨_, F2, B, fps1, _, S2, h5, fun cls dx H3 F3 fps3 S3 T3 x3 => q cls dx H3 F3 fps3 S3 ((T2.weak s1).trans (T3.weak s2)) x3⟩
    · obtain ⟨_, _, z⟩ := opt_ok h3
      cases z
  · exact ⟨env, F, B, fps, _, S, h1, fun cls dx H1 F1 fps1 S1 T1 x1 => q cls dx H1 F1 fps1 S1 (T1.weak s1) x1⟩
theorem evG_length {kp : E → SD → Option SD} : ∀ {as : Es} {env env' : Env} {xs : List SD}, evG sg cl kp as env = some (.ok xs env') → xs.length = as.length
  | .nil, _, _, _, h => by cases h; rfl
  | .cons e es, _, _, _, h => by
    rcases bind_ok (show M.bind (ev sg cl e) _ _ = _ from h) with ⟨x, env1, h1, h2⟩ | ⟨_, _, _, _, z⟩
    · rcases bind_ok h2 with ⟨y, env2, h3, h4⟩ | ⟨_, _, _, _, z⟩
      · rcases bind_ok h4 with ⟨ys, env3, h5, h6⟩ | ⟨_, _, _, _, z⟩
        · cases pure_ok h6
          rw [List.length_cons, evG_length h5]
          rfl
        · cases z
      · cases z
    · cases z
theorem evG_shape {t : Sh} : ∀ {as : Es} {env env' : Env} {xs : List SD}, evG sg cl (takeAs t) as env = some (.ok xs env') → ∀ x ∈ xs, x.1 = t
  | .nil, _, _, _, h => by cases h; intro x hx; cases hx
  | .cons e es, _, _, _, h => by
    rcases bind_ok (show M.bind (ev sg cl e) _ _ = _ from h) with ⟨x, env1, h1, h2⟩ | ⟨_, _, _, _, z⟩
    · rcases bind_ok h2 with ⟨y, env2, h3, h4⟩ | ⟨_, _, _, _, z⟩
      · rcases bind_ok h4 with ⟨ys, env3, h5, h6⟩ | ⟨_, _, _, _, z⟩
        · cases pure_ok h6
          intro u hu
          rcases List.mem_cons.mp hu with rfl | hu
          · obtain ⟨y', hk, e'⟩ := opt_ok h3
            cases e'
            unfold takeAs at hk
            split at hk
            · obtain ⟨_, hk⟩ := ite_some hk
              cases hk
              rfl
            · cases hk
          · exact evG_shape h5 u hu
        · cases z
      · cases z
    · cases z
theorem RepSu.all_same {t : Sh} : ∀ {xs : List SD} {vs : List V} {fp : List Addr}, (∀ x ∈ xs, x.1 = t) → RepSu w F B H (xs.map (·.2)) (xs.map (·.1)) vs fp → RepSs w F B H (xs.map (·.2)) t vs fp
  | [], _, _, _, h => h
  | x :: xs, _, _, hx, h => by
    obtain ⟨v, r, f1, f2, e1, e2, e3, e4⟩ := h
    exact ⟨v, r, f1, f2, e1, e2, by rw [← hx x (.head _)]; exact e3, RepSu.all_same (fun y hy => hx y (.tail _ hy)) e4⟩
theorem RepSu.frz : ∀ {xs : List SD} {vs : List V} {fp : List Addr}, xs.all (fun x => x.1.isF) = true → RepSu w F B H (xs.map (·.2)) (xs.map (·.1)) vs fp → Reps w F (xs.map (·.2)) vs ∧ fp = []
  | [], _, _, _, h => ⟨h.1, h.2⟩
  | (s, d) :: xs, _, _, hx, h => by
    obtain ⟨v, r, f1, f2, e1, e2, e3, e4⟩ := h
    obtain ⟨h1, h2⟩ := and2 (show ((s, d).1.isF && xs.all (fun x => x.1.isF)) = true from hx)
    have es := isF_eq h1
    have es' : s = .frz := es
    subst es'
    obtain ⟨q1, q2⟩ := RepSu.frz h2 e4
    obtain ⟨q3, q4⟩ := RepS_frz.mp e3
    exact ⟨⟨v, r, e1, q3, q1⟩, by rw [e2, q2, q4]; rfl⟩
theorem c_tup {as : Es} {es : List Expr} {x1 : _} {pos : Pos} (wf : decide (as.length ≤ 1000) = true) (ha : PA X es (tG w sg cl W take as)) : PE X (.Tuple es x1 pos) (tE w sg cl W (.tup as)) :=
  PE.imp (pe_tup ha) fun σ H Q ⟨env, F, B, fps, r, S, he, q⟩ => by
    rcases bind_ok he with ⟨xs, env1, h1, h2⟩ | ⟨c, fs, env1, h1, rfl⟩
    · refine ⟨env, F, B, fps, _, S, h1, fun vs H1 F1 fps1 fp S1 T1 R1 K1 Fr1 => ?_⟩
      cases pure_ok h2
      have hl : vs.length ≤ 1000 := by
        rw [RepSu.length R1, List.length_map, evG_length h1]
        exact of_decide_eq_true wf
      refine ⟨Nat.le_trans hl (by rw [sizeLine_eq]; omega), fun p hp => ?_⟩
      by_cases hc : xs.all (fun x => x.1.isF) = true
      · rw [if_pos hc] at q
        obtain ⟨r1, r2⟩ := RepSu.frz hc R1
        exact Cont.tup (cont_of S1 T1 q) S1.fh r1 hp
      · rw [if_neg hc] at q
        have fp0 : F1 p = none := ex_none S1.fh hp
        have eh : Ex H1 (upd H1 p (.tup vs)) := ex_upd hp
        have T2 : Stp [] F1 H1 fps1 F1 (upd H1 p (.tup vs)) fps1 := Stp.new S1 eh (ex_refl _) (ex_trans S1.fh eh) fun _ _ z => .inl z
        refine q (.ref p) _ F1 fps1 (S1.new eh (ex_refl _) (ex_trans S1.fh eh) fun _ _ z => .inl z) (T1.trans (T2.weak fun _ z => by cases z)) ⟨fp, ⟨p, vs, rfl, upd_same, ?_⟩, K1.step T2, Fr1⟩
        exact RepSu.mono (ex_refl _) (ex_refl _) (fun a xs z => eh a _ z) _ _ _ _ (fun a o _ z => eh a o z) R1
    · exact ⟨env, F, B, fps, _, S, h1, q⟩
theorem c_lst {as : Es} {s : Sh} {es : List Expr} {pos : Pos} (wf : decide (as.length ≤ 1000) = true) (ha : PA X es (tG w sg cl W (takeAs s) as)) : PE X (.List es pos) (tE w sg cl W (.lst s as)) :=
  PE.imp (pe_lst ha) fun σ H Q ⟨env, F, B, fps, r, S, he, q⟩ => by
    rcases bind_ok he with ⟨xs, env1, h1, h2⟩ | ⟨c, fs, env1, h1, rfl⟩
    · refine ⟨env, F, B, fps, _, S, h1, fun vs H1 F1 fps1 fp S1 T1 R1 K1 Fr1 => ?_⟩
      cases pure_ok h2
      have hl : vs.length ≤ 1000 := by
        rw [RepSu.length R1, List.length_map, evG_length h1]
        exact of_decide_eq_true wf
      refine ⟨Nat.le_trans hl (by rw [sizeLine_eq]; omega), fun p hp => ?_⟩
      have fp0 : F1 p = none := ex_none S1.fh hp
      have eh : Ex H1 (upd H1 p (.lst vs)) := ex_upd hp
      have T2 : Stp [] F1 H1 fps1 F1 (upd H1 p (.lst vs)) fps1 := Stp.new S1 eh (ex_refl _) (ex_trans S1.fh eh) fun _ _ z => .inl z
      have R2 := RepSs.mono (ex_refl F1) (ex_refl B) (fun a xs z => eh a _ z) _ _ _ _ (fun a o _ z => eh a o z) (RepSu.all_same (evG_shape h1) R1)
      have K2 := K1.step T2
      refine q (.ref p) _ F1 fps1 (S1.new eh (ex_refl _) (ex_trans S1.fh eh) fun _ _ z => .inl z) (T1.trans (T2.weak fun _ z => by cases z)) ⟨p :: fp, ⟨p, vs, fp, rfl, rfl, upd_same, R2⟩, ?_, ?_⟩
      · refine ⟨List.nodup_cons.mpr ⟨fun z => (K1.hd p z).some hp, K2.nd⟩, fun a ha => ?_, fun a ha => ?_, fun a ha => ?_⟩
        all_goals rcases List.mem_cons.mp ha with rfl | h
        · exact ⟨fp0, ex_none S1.bh hp⟩
        · exact K2.nf a h
        · exact ⟨_, upd_same, trivial⟩
        · exact K2.hd a h
        · exact fun j hj => (S1.hd j _ hj).some hp
        · exact K2.ds a h
      · intro a ha
        rcases List.mem_cons.mp ha with rfl | h
        · exact .inl (T1.gone hp)
        · exact Fr1 a h
    · exact ⟨env, F, B, fps, _, S, h1, q⟩
end
end DI
/-! DI7e: and, or, not, if-else, attributes, new dicts, built-in calls. -/
namespace DI
open PySem L2
variable {F F' F1 F2 B B' H H' H1 H2 : Hp} {σ : L2.St} {env env1 : Env} {fps fps' fps1 fps2 : Nat → List Addr}
section
variable {X : Cx} {g : Gam} {w : Wd} {sg : Sig} {cl : Calls} {W : WX}
/-- what is asked at the end -/
def Fin (w : Wd) (W : WX) (ef : List Nat) (F B H : Hp) (σ : L2.St) (fps : Nat → List Addr) (Q : VK) (r : Out SD) : Prop := match r with
  | .ok x env' => ∀ v H' F' fps', Sta w F' B H' σ env' fps' → Stp ef F H fps F' H' fps' → VO w none ef H fps F' B H' fps' x v → Q v H'
  | .ex c fs env' => ∀ cls dx H' F' fps', Sta w F' B H' σ env' fps' → Stp ef F H fps F' H' fps' → ExR w c fs cls dx F' → W cls dx σ H'
/-- the last part of a reading, its value kept -/
theorem tail_E {b : E} {ef : List Nat} {r : Out SD} {Q : VK} {kp : E → SD → Option SD} (K : KpG kp) (S1 : Sta w F1 B H1 σ env1 fps1) (T1 : Stp ef F H fps F1 H1 fps1) (sub : ∀ i ∈ effE sg b, i ∈ ef)
    (h : (M.bind (ev sg cl b) fun y => M.opt (kp b y)) env1 = some r) (q : Fin w W ef F B H σ fps Q r) : tE w sg cl W b σ H1 Q := by
  rcases bind_ok h with ⟨y, env2, h3, h4⟩ | ⟨c, fs, env2, h3, rfl⟩
  · refine ⟨env1, F1, B, fps1, _, S1, h3, fun v H2 F2 fps2 S2 T2 V2 => ?_⟩
    obtain ⟨z, hk, rfl⟩ := opt_ok h4
    obtain ⟨F3, f1, S3, T3, R3, K3, Fr3⟩ := keep_ok K hk S2 T2 V2
    exact q v H2 F3 fps2 S3 (T1.trans (T3.weak sub)) ⟨f1, R3, K3, Fr.back T1 (Fr3.weak sub)⟩
  · exact ⟨env1, F1, B, fps1, _, S1, h3, fun cls dx H2 F2 fps2 S2 T2 x2 => q cls dx H2 F2 fps2 S2 (T1.trans (T2.weak sub)) x2⟩
/-- a new thing is shared -/
theorem c_fzt {a : E} {l : Expr} (h : PE X l (tE w sg cl W a)) : PE X l (tE w sg cl W (.fzt a)) :=
  PE.imp h fun σ H Q ⟨env, F, B, fps, r, S, he, q⟩ => tail_E (ef := effE sg (.fzt a)) (kpA .frz) S (Stp.refl S.fh) (fun _ z => z) he q
theorem truth_ok {x : SD} {c : Bool} {v : V} (h : truth x = some c) (r : ∃ fp, RepS w F B H x.2 x.1 v fp) : v = .bl c := by
  obtain ⟨s, d⟩ := x
  cases d <;> first | (cases h; done) | skip
  cases h
  exact v_bl r
/-- the first part: a truth -/
theorem head_T {a : E} {ef : List Nat} {k : Bool → M SD} {Q : VK} (sub : ∀ i ∈ effE sg a, i ∈ ef) {r : Out SD} (S : Sta w F B H σ env fps) (h : (M.bind (ev sg cl a) fun x => M.bind (M.opt (truth x)) k) env = some r) (q : Fin w W ef F B H σ fps Q r)
    {P : Bool → Hp → Prop} (hP : ∀ c env1 H1 F1 fps1, Sta w F1 B H1 σ env1 fps1 → Stp ef F H fps F1 H1 fps1 → k c env1 = some r → P c H1) : tE w sg cl W a σ H fun x H1 => ∃ c, x = .bl c ∧ P c H1 := by
  rcases bind_ok h with ⟨x, env1, h1, h2⟩ | ⟨c, fs, env1, h1, rfl⟩
  · refine ⟨env, F, B, fps, _, S, h1, fun v H1 F1 fps1 S1 T1 V1 => ?_⟩
    rcases bind_ok h2 with ⟨c, env2, h3, h4⟩ | ⟨c, fs, env2, h3, rfl⟩
    · obtain ⟨c', ht, e⟩ := opt_ok h3
      cases e
      exact ⟨_, truth_ok ht (V1.elim fun fp z => ⟨fp, z.1⟩), hP _ _ H1 F1 fps1 S1 (T1.weak sub) h4⟩
    · obtain ⟨_, _, z⟩ := opt_ok h3
      cases z
  · exact ⟨env, F, B, fps, _, S, h1, fun cls dx H1 F1 fps1 S1 T1 x1 => q cls dx H1 F1 fps1 S1 (T1.weak sub) x1⟩
theorem Fin.now {ef : List Nat} {Q : VK} {d : D} {v : V} (S1 : Sta w F1 B H1 σ env1 fps1) (T1 : Stp ef F H fps F1 H1 fps1) (q : Fin w W ef F B H σ fps Q (.ok (.frz, d) env1)) (r : Rep w F1 d v) : Q v H1 :=
  q v H1 F1 fps1 S1 T1 ⟨[], RepS_frz.mpr ⟨r, rfl⟩, Kp.nil, Fr.nil⟩
theorem and_go {a b : E} {Q : VK} (h : tE w sg cl W (.and a b) σ H Q) : tAndV (tE w sg cl W a) (tE w sg cl W b) σ H Q := by
  obtain ⟨env, F, B, fps, r, S, he, q⟩ := h
  have q' : Fin w W (effE sg (.and a b)) F B H σ fps Q r := q
  refine head_T (ef := effE sg (.and a b)) mem_l S he q' fun c env1 H1 F1 fps1 S1 T1 hk => ?_
  cases c with
  | true => exact tail_E kpK S1 T1 mem_r hk q'
  | false =>
    cases pure_ok hk
    exact Fin.now S1 T1 q' rfl
theorem kpO : KpG orK := fun e x y h => by
  unfold orK at h
  by_cases hs : x.2.scal = true
  · rw [if_pos hs] at h
    cases h
    obtain ⟨s, d⟩ := x
    have hs' : d.scal = true := hs
    refine ⟨fun _ => ⟨.inl rfl, (.frz, d), ?_, .inl rfl⟩, fun _ => ⟨rfl, .inr ⟨hs, rfl⟩⟩⟩
    cases s with
    | frz => rfl
    | bor =>
      show some ((if d.scal = true then Sh.frz else Sh.bor), d) = _
      rw [if_pos hs']
    | _ => exact if_pos hs'
  · rw [if_neg hs] at h
    exact kpK e x y h
theorem truthG_ok {x : SD} {k : Bool} {v : V} {env' : Env} (S : Sta w F1 B H1 σ env' fps1) (h : truthG x = some k) (r : ∃ fp, RepS w F1 B H1 x.2 x.1 v fp) : L2.TruV w.K v H1 k := by
  obtain ⟨s, d⟩ := x
  cases d <;> first | (cases h; done) | skip
  · cases h
    have := v_non r
    subst this
    rfl
  · cases h
    have := v_bl r
    subst this
    rfl
  · cases h
    have := v_int r
    subst this
    rfl
  · cases h
    obtain ⟨a, us, rfl, r1, r2⟩ := v_lst S.fh S.bh r
    rename_i ds
    refine .inl ⟨us, SqL.of r1, ?_⟩
    cases ds with
    | nil =>
      have hu : us = [] := r2
      subst hu
      rfl
    | cons d ds =>
      obtain ⟨u, us', hu, _⟩ := r2
      subst hu
      rfl
theorem or_go {a b : E} {Q : VK} (h : tE w sg cl W (.or a b) σ H Q) : tOrV (tE w sg cl W a) (tE w sg cl W b) σ H Q := by
  obtain ⟨env, F, B, fps, r, S, he, q⟩ := h
  have q' : Fin w W (effE sg (.or a b)) F B H σ fps Q r := q
  refine head_T (ef := effE sg (.or a b)) mem_l S he q' fun c env1 H1 F1 fps1 S1 T1 hk => ?_
  cases c with
  | false => exact tail_E kpK S1 T1 mem_r hk q'
  | true =>
    cases pure_ok hk
    exact Fin.now S1 T1 q' rfl
theorem orv_go {a b : E} {Q : VK} (h : tE w sg cl W (.orv a b) σ H Q) : tOrT w.K (tE w sg cl W a) (tE w sg cl W b) σ H Q := by
  obtain ⟨env, F, B, fps, r, S, he, q⟩ := h
  have q' : Fin w W (effE sg (.orv a b)) F B H σ fps Q r := q
  rcases bind_ok (show M.bind (ev sg cl a) (fun x => M.bind (M.opt (truthG x)) fun c => if c = true then M.opt (orK a x) else M.bind (ev sg cl b) fun y => M.opt (keepK b y)) env = some r from he) with ⟨x, env1, h1, h2⟩ | ⟨c, fs, env1, h1, rfl⟩
  · refine ⟨env, F, B, fps, _, S, h1, fun v H1 F1 fps1 S1 T1 V1 => ?_⟩
    obtain ⟨k, hk, h4⟩ : ∃ k, truthG x = some k ∧ (if k = true then M.opt (orK a x) else M.bind (ev sg cl b) fun y => M.opt (keepK b y)) env1 = some r := by
      rcases bind_ok h2 with ⟨k, env2, h3, h4⟩ | ⟨c, fs, env2, h3, rfl⟩
      · obtain ⟨k', hk, e⟩ := opt_ok h3
        cases e
        exact ⟨_, hk, h4⟩
      · obtain ⟨_, _, z⟩ := opt_ok h3
        cases z
    refine ⟨k, truthG_ok S1 hk (V1.elim fun fp z => ⟨fp, z.1⟩), ?_⟩
    cases k with
    | false => exact tail_E kpK S1 (T1.weak mem_l) mem_r h4 q'
    | true =>
      obtain ⟨y, hy, rfl⟩ := opt_ok h4
      obtain ⟨F3, f1, S3, T3, R3, K3, Fr3⟩ := keep_ok kpO hy S1 T1 V1
      exact q' v H1 F3 fps1 S3 (T3.weak mem_l) ⟨f1, R3, K3, Fr3.weak mem_l⟩
  · exact ⟨env, F, B, fps, _, S, h1, fun cls dx H1 F1 fps1 S1 T1 x1 => q' cls dx H1 F1 fps1 S1 (T1.weak mem_l) x1⟩
theorem not_go {a : E} {Q : VK} (h : tE w sg cl W (.not a) σ H Q) : tNotV (tE w sg cl W a) σ H Q := by
  obtain ⟨env, F, B, fps, r, S, he, q⟩ := h
  have q' : Fin w W (effE sg (.not a)) F B H σ fps Q r := q
  have he' : (M.bind (ev sg cl a) fun x => M.bind (M.opt (truth x)) fun c => M.pure (Sh.frz, D.bl (!c))) env = some r := he
  refine head_T (a := a) (ef := effE sg (.not a)) (fun _ z => z) S he' q' fun c env1 H1 F1 fps1 S1 T1 hk => ?_
  cases pure_ok hk
  exact Fin.now S1 T1 q' rfl
theorem ite_go {c a b : E} {Q : VK} (h : tE w sg cl W (.ite c a b) σ H Q) : tIf (tB (tE w sg cl W c)) (tE w sg cl W a) (tE w sg cl W b) σ H Q := by
  obtain ⟨env, F, B, fps, r, S, he, q⟩ := h
  have q' : Fin w W (effE sg (.ite c a b)) F B H σ fps Q r := q
  refine head_T (ef := effE sg (.ite c a b)) mem_l S he q' fun k env1 H1 F1 fps1 S1 T1 hk => ?_
  cases k with
  | true => exact tail_E kpK S1 T1 (fun i hi => mem_r i (mem_l i hi)) hk q'
  | false => exact tail_E kpK S1 T1 (fun i hi => mem_r i (mem_r i hi)) hk q'
theorem attr_go (C : Ctx X g w sg W) {e : E} {f : Nat} {Q : VK} (h : tE w sg cl W (.attr e f) σ H Q) : tFld w.K (tE w sg cl W e) (w.fn f) σ H Q := by
  obtain ⟨env, F, B, fps, r, S, he, q⟩ := h
  rcases bind_ok he with ⟨x, env1, h1, h2⟩ | ⟨c, fs, env1, h1, rfl⟩
  · refine ⟨env, F, B, fps, _, S, h1, fun v H1 F1 fps1 S1 T1 V1 => ?_⟩
    obtain ⟨y, hy, rfl⟩ := opt_ok h2
    obtain ⟨⟨z1, z2⟩, hz, hy2⟩ := Option.bind_eq_some_iff.mp hy
    obtain ⟨fp, r1, _⟩ := V1
    obtain ⟨s, d⟩ := x
    obtain ⟨a, c, dx, ws, u, fq, e1, e2, e3, e4, e5, e6⟩ := attr_ok C.wok S1.fh S1.bh r1 hz
    obtain ⟨c1, c2⟩ := C.wok.cls c f e3
    obtain ⟨t, d'⟩ := y
    obtain ⟨rfl, r2, _⟩ := share_ok hy2 e6
    exact ⟨a, _, dx, ws, u, e1, e2, c1, c2, e4, q u H1 F1 fps1 S1 T1 ⟨[], r2, Kp.nil, Fr.nil⟩⟩
  · exact ⟨env, F, B, fps, _, S, h1, q⟩
theorem c_attr (C : Ctx X g w sg W) {e : E} {f : Nat} {l : Expr} {a : Str} {pos : Pos} (ea : a = g.fn f) (hb : baseOk l = true) (h : PE X l (tE w sg cl W e)) : PE X (.Attribute l a pos) (tE w sg cl W (.attr e f)) := by
  have e2 : a = w.fn f := ea.trans (C.gfn f)
  subst e2
  refine PE.imp (pe_fld h (base_ok hb _ _)) fun σ H Q q => ?_
  rw [C.K]
  exact attr_go C q
/-! ### a new dict -/
theorem new_go {Q : VK} {s : Sh} {o : HO} {d : D} (ho : notTup o) (rep : ∀ F B H p, H p = some o → RepS w F B H d (.dic s) (.ref p) [p]) (S : Sta w F B H σ env fps) (q : Fin w W [] F B H σ fps Q (.ok (.dic s, d) env)) : ∀ p, H p = none → Q (.ref p) (upd H p o) := fun p hp => by
  have fp0 : F p = none := ex_none S.fh hp
  have eh : Ex H (upd H p o) := ex_upd hp
  refine q (.ref p) _ F fps (S.new eh (ex_refl _) (ex_trans S.fh eh) fun _ _ z => .inl z) (Stp.new S eh (ex_refl _) (ex_trans S.fh eh) fun _ _ z => .inl z) ⟨[p], rep _ _ _ _ upd_same, ?_, ?_⟩
  · refine ⟨by simp, fun a ha => ?_, fun a ha => ?_, fun a ha => ?_⟩
    all_goals rw [List.mem_singleton.mp ha]
    · exact ⟨fp0, ex_none S.bh hp⟩
    · exact ⟨_, upd_same, ho⟩
    · exact fun j hj => (S.hd j _ hj).some hp
  · intro a ha
    rw [List.mem_singleton.mp ha]
    exact .inl hp
theorem c_newd {t : Bool} {s : Sh} {pos : Pos} : PE X (.Dict [] [] pos) (tE w sg cl W (.newd t s)) := by
  cases t with
  | false =>
    refine PE.imp pe_dnewK fun σ H Q ⟨env, F, B, fps, r, S, he, q⟩ => ?_
    have he' : M.pure (Sh.dic s, D.dic []) env = some r := he
    cases pure_ok he'
    exact new_go (W := W) (d := .dic []) trivial (fun F B H p hp => show RepS w F B H (.dic []) (.dic s) (.ref p) [p] from ⟨p, [], [], rfl, rfl, hp, rfl, rfl⟩) S q
  | true =>
    refine PE.imp pe_dnewT fun σ H Q ⟨env, F, B, fps, r, S, he, q⟩ => ?_
    have he' : M.pure (Sh.dic s, D.dit []) env = some r := he
    cases pure_ok he'
    exact new_go (W := W) (d := .dit []) trivial (fun F B H p hp => show RepS w F B H (.dit []) (.dic s) (.ref p) [p] from ⟨p, [], [], rfl, rfl, hp, rfl, rfl⟩) S q
/-! ### rows of arguments -/
theorem star_ne {e : Expr} (h : notStar e = true) (es : List Expr) (en : PySem.Env) : starEach (e :: es) en = (false, eval e en) :: starEach es en := by
  cases e <;> first | rfl | cases h
theorem star_all : ∀ {es : List Expr} (h : es.all notStar = true) (en : PySem.Env) (pos : Pos), (backTo pos (starEach es en)).any (·.1) = false
  | [], _, _, _ => rfl
  | e :: es, h, en, pos => by
    obtain ⟨h1, h2⟩ := and2 (show (notStar e && es.all notStar) = true from h)
    rw [star_ne h1]
    show (false || (backTo pos (starEach es en)).any (·.1)) = false
    rw [star_all h2]
    rfl
theorem star_all' : ∀ {es : List Expr} (h : es.all notStar = true) (en : PySem.Env) (pos : Pos), (backTo pos (starEach es en)).all (fun x => !x.1) = true
  | [], _, _, _ => rfl
  | e :: es, h, en, pos => by
    obtain ⟨h1, h2⟩ := and2 (show (notStar e && es.all notStar) = true from h)
    rw [star_ne h1]
    show (true && (backTo pos (starEach es en)).all (fun x => !x.1)) = true
    rw [star_all' h2]
    rfl
theorem pa_pl {te : TE} {t : TA} {e : Expr} {es : List Expr} (ha : PE X e te) (hr : PA X es t) (h : notStar e = true) : PA X (e :: es) (tCons te t) := pa_cons ha hr (star_ne h es _)
/-- how a built-in function is called -/
inductive BF where
  | fn (id : String) | ty (T : String)
def BF.val : BF → Value
  | .fn id => .builtin id
  | .ty T => .type T
theorem c_fun (C : Ctx X g w sg W) {x name : Str} {f : BF} {r : List V → Hp → VK → Prop} {args : List Expr} {t : TA} {p pos : Pos} (hx : g.glo x name = true) (hb : name ∈ bnames) (hv : bootBuiltins name = some f.val) (hc : CallR X f.val r) (ha : PA X args t) (hne : args ≠ []) (hs : args.all notStar = true) :
    PE X (.Call (.Name x p) args [] pos) (tCB r t) := by
  obtain ⟨rfl, h2, h3, h4⟩ := glo_ok C hx
  cases args with
  | nil => exact (hne rfl).elim
  | cons e es =>
    obtain ⟨n1, n2⟩ := and2 (show (notStar e && es.all notStar) = true from hs)
    cases f with
    | fn id => exact pe_callB hc h2 (C.bl _ hb) hv ha h4 h3 (star_ne n1 _ _) (star_all n2 _ _)
    | ty T => exact pe_callTy hc h2 (C.bl _ hb) hv ha h4 h3 (star_ne n1 _ _) (star_all n2 _ _)
end
end DI
/-! DI7f: built-in functions and methods by their names. -/
namespace DI
open PySem L2
variable {F F' F1 F2 B B' H H' H1 H2 : Hp} {σ : L2.St} {env env1 : Env} {fps fps' fps1 fps2 : Nat → List Addr}
section
variable {X : Cx} {g : Gam} {w : Wd} {sg : Sig} {cl : Calls} {W : WX}
theorem c_call (C : Ctx X g w sg W) {o : Op} {as : Es} {x name : Str} {args : List Expr} {p pos : Pos} (ho : opFn o as.length = some name) (hg : o = .repr → g.gd = true) (hx : g.glo x name = true) (ha : PA X args (tEs w sg cl W as)) (hne : args ≠ []) (hs : args.all notStar = true) :
    PE X (.Call (.Name x p) args [] pos) (tE w sg cl W (.app o as)) := by
  have hu := C.un
  have fin : ∀ {f : BF} {r : List V → Hp → VK → Prop}, name ∈ bnames → bootBuiltins name = some f.val → OpV w o r → CallR X f.val r → PE X (.Call (.Name x p) args [] pos) (tE w sg cl W (.app o as)) :=
    fun hb hv ov hc => PE.imp (c_fun C hx hb hv hc ha hne hs) fun σ H Q q => app_go ov q
  have hK := C.K
  unfold opFn at ho
  split at ho <;> first | (cases ho; done) | skip
  all_goals cases ho
  · exact fin (f := .fn "len") (by decide +kernel) (by decide +kernel) ov_len (by rw [← hK]; exact call_len.or call_lenD)
  · exact fin (f := .fn "abs") (by decide +kernel) (by decide +kernel) ov_abs call_abs
  · exact fin (f := .fn "min") (by decide +kernel) (by decide +kernel) ov_min2 (call_min2 C.calm)
  · exact fin (f := .fn "max") (by decide +kernel) (by decide +kernel) ov_max2 (call_max2 C.calm)
  · exact fin (f := .ty "int") (by decide +kernel) (by decide +kernel) ov_int call_int1
  · exact fin (f := .ty "str") (by decide +kernel) (by decide +kernel) ov_str call_str_int
  · exact fin (f := .fn "repr") (by decide +kernel) (by decide +kernel) ov_repr (by rw [← hK]; exact call_repr (C.gd (hg rfl)) (by omega))
  · exact fin (f := .ty "list") (by decide +kernel) (by decide +kernel) ov_list (by rw [← hK]; exact call_list_of)
  · exact fin (f := .ty "tuple") (by decide +kernel) (by decide +kernel) ov_tuple (by rw [← hK]; exact call_tuple_of)
  · exact fin (f := .fn "sorted") (by decide +kernel) (by decide +kernel) ov_sorted (by rw [← hK]; exact call_sortAl C.calm C.un)
  · exact fin (f := .fn "sum") (by decide +kernel) (by decide +kernel) ov_sum (by rw [← hK]; exact cr_sum C.calm)
  · exact fin (f := .fn "all") (by decide +kernel) (by decide +kernel) ov_all (by rw [← hK]; exact cr_all C.calm)
  · exact fin (f := .fn "any") (by decide +kernel) (by decide +kernel) ov_any (by rw [← hK]; exact cr_any C.calm)
  · exact fin (f := .ty "dict") (by decide +kernel) (by decide +kernel) ov_dict (by rw [← hK]; exact call_dictP C.calm)
theorem c_bm (C : Ctx X g w sg W) {o : Op} {a : E} {as : Es} {l : Expr} {m : Str} {args : List Expr} {apos pos : Pos} (ho : opMt o (as.length + 1) = some m) (hb : baseOk l = true) (hl : (apos.endLine == pos.line) = true) (hn : args.length < 29) (wf : out a.root (effEs sg as) = true)
    (he : PE X l (tE w sg cl W a)) (ha : PA X args (tEs w sg cl W as)) (hne : args ≠ []) (hs : args.all notStar = true) : PE X (.Call (.Attribute l m apos) args [] pos) (tE w sg cl W (.bm o a as)) := by
  cases args with
  | nil => exact (hne rfl).elim
  | cons e es =>
    obtain ⟨n1, n2⟩ := and2 (show (notStar e && es.all notStar) = true from hs)
    have few : ((backTo pos (starEach (e :: es) X.env)).all (fun x => !x.1) && (backToKw pos (keywordEach [] X.env)).all (fun x => x.1.isSome) && decide ((e :: es).length + ([] : List Keyword).length + (if ([] : List Keyword).isEmpty then 0 else 1) < 30)) = true := by
      rw [star_all' hs]
      show (true && true && decide ((e :: es).length + 0 + 0 < 30)) = true
      rw [decide_eq_true (show (e :: es).length + 0 + 0 < 30 by omega)]
      rfl
    have txs : ∀ (x : SD) (v : V) (F B H : Hp), (∃ z, x.2 = .str z) → (∃ fp, RepS w F B H x.2 x.1 v fp) → tyV w.K "str" v H := fun x v F B H ⟨z, hz⟩ h => by
      rw [hz] at h
      rw [v_str h]
      exact rfl
    have fin : ∀ {T id : String} {r : V → List V → Hp → VK → Prop} (pa : PlainAttrs T) (slot : Slot T m id) (hty : typeOf (.builtin id) = pure (.type "method_descriptor")) (hm : MtR X id r) (ov : OpV w o (fun vs H Q => ∃ x xs, vs = x :: xs ∧ r x xs H Q))
        (ht : ∀ (x : SD) (v : V) (F B H : Hp), recvOk o x.2 = true → Ex F H → Ex B H → (∃ fp, RepS w F B H x.2 x.1 v fp) → tyV w.K T v H), PE X (.Call (.Attribute l m apos) (e :: es) [] pos) (tE w sg cl W (.bm o a as)) := fun pa slot hty hm ov ht =>
      PE.imp (pe_bm pa slot hty hm he ha (base_ok hb _ _) few hl (star_ne n1 _ _) (star_all n2 _ _)) fun σ H Q q => by
        rw [C.K]
        exact bm_go ov wf ht q
    unfold opMt at ho
    split at ho <;> first | (cases ho; done) | skip
    all_goals cases ho
    · refine fin PySem.F.plainAttrs_str PySem.F.slot_str_join PySem.F.type_str_join (by rw [← C.K]; exact mt_join) ov_join fun x v F B H hr _ _ h => txs x v F B H ?_ h
      revert hr
      cases x.2 <;> intro hr <;> first | exact ⟨_, rfl⟩ | cases hr
    · refine fin PySem.F.plainAttrs_str PySem.F.slot_str_split PySem.F.type_str_split mt_split ov_split fun x v F B H hr _ _ h => txs x v F B H ?_ h
      revert hr
      cases x.2 <;> intro hr <;> first | exact ⟨_, rfl⟩ | cases hr
    · refine fin PySem.F.plainAttrs_list PySem.F.slot_list_index PySem.F.type_list_index (by rw [← C.K]; exact mt_indexD (by have := C.un; omega)) ov_index fun x v F B H hr e1 e2 h => ?_
      obtain ⟨s, d⟩ := x
      cases d <;> first | (cases hr; done) | skip
      obtain ⟨p, us, rfl, r1, r2⟩ := v_lst e1 e2 h
      exact .inl ⟨rfl, us, SqL.of r1⟩
theorem tyName_ok {t : Nat} {z : Str} (h : tyName t = some z) : t < 6 ∧ z ∈ bnames ∧ bootBuiltins z = some (.type (tyNm t)) := by
  unfold tyName at h
  split at h <;> first | (cases h; done) | skip
  all_goals
    cases h
    exact ⟨by omega, by decide +kernel, by decide +kernel⟩
theorem c_isi (C : Ctx X g w sg W) {t : Nat} {a : E} {x y z : Str} {l : Expr} {p p2 pos : Pos} (ht : tyName t = some z) (hx : g.glo x "isinstance" = true) (hy : g.glo y z = true) (wf : wfEs sg true (.cons a .nil) = true) (hn : notStar l = true) (he : PE X l (tE w sg cl W a)) :
    PE X (.Call (.Name x p) [l, .Name y p2] [] pos) (tE w sg cl W (.app (.isi t) (.cons a .nil))) := by
  obtain ⟨h1, h2, h3⟩ := tyName_ok ht
  obtain ⟨rfl, n2, n3, n4⟩ := glo_ok C hy
  have pn : PE X (.Name y p2) (tC (.ty (tyNm t))) := pe_bltn n2 (C.bl _ h2) h3 rfl n4 n3
  have pa : PA X [l, .Name y p2] (tCons (tE w sg cl W a) (tCons (tC (.ty (tyNm t))) tNil)) := pa_pl he (pa_pl pn pa_nil rfl) hn
  refine PE.imp (c_fun C (f := .fn "isinstance") hx (by decide +kernel) (by decide +kernel) call_isi pa (by simp) (by show (notStar l && true) = true; rw [hn]; rfl)) fun σ H Q q => ?_
  refine tE.mono (tEs_one wf (app_go (ov_isi h1) q)) fun v H1 ⟨x', e, t', b, k1, k2, k3⟩ => ?_
  cases e
  rw [C.K]
  exact ⟨_, _, t', _, b, rfl, .ty _, k1, k2, k3⟩
theorem c_setlen (C : Ctx X g w sg W) {a : E} {x y : Str} {l : Expr} {p p2 q pos : Pos} (hx : g.glo x "len" = true) (hy : g.glo y "set" = true) (wf : wfEs sg true (.cons a .nil) = true) (hn : notStar l = true) (he : PE X l (tE w sg cl W a)) :
    PE X (.Call (.Name x p) [.Call (.Name y p2) [l] [] q] [] pos) (tE w sg cl W (.app .setlen (.cons a .nil))) := by
  obtain ⟨rfl, m2, m3, m4⟩ := glo_ok C hx
  obtain ⟨rfl, n2, n3, n4⟩ := glo_ok C hy
  refine PE.imp (pe_lenTx C.calm m2 (C.bl _ (by decide +kernel)) n2 (C.bl _ (by decide +kernel)) he (star_ne hn _ _)) fun σ H Q q => ?_
  rw [C.K]
  exact tE.mono (tEs_one wf (app_go ov_setlen q)) fun v H1 ⟨x', e, k⟩ => by
    cases e
    exact k
theorem c_sortset (C : Ctx X g w sg W) {a : E} {x y : Str} {l : Expr} {p p2 q pos : Pos} (hx : g.glo x "sorted" = true) (hy : g.glo y "set" = true) (wf : wfEs sg true (.cons a .nil) = true) (hn : notStar l = true) (he : PE X l (tE w sg cl W a)) :
    PE X (.Call (.Name x p) [.Call (.Name y p2) [l] [] q] [] pos) (tE w sg cl W (.app .sortset (.cons a .nil))) := by
  obtain ⟨rfl, m2, m3, m4⟩ := glo_ok C hx
  obtain ⟨rfl, n2, n3, n4⟩ := glo_ok C hy
  refine PE.imp (pe_sortTx C.calm m2 (C.bl _ (by decide +kernel)) n2 (C.bl _ (by decide +kernel)) he (star_ne hn _ _) (by decide +kernel)) fun σ H Q q => ?_
  rw [C.K]
  exact tE.mono (tEs_one wf (app_go ov_sortset q)) fun v H1 ⟨x', e, k⟩ => by
    cases e
    exact k
end
end DI
/-! DI7g: a place within a name's thing. -/
namespace DI
open PySem L2
variable {F F' F1 F2 B B' H H' H1 H2 : Hp} {σ : L2.St} {env env1 : Env} {fps fps' fps1 fps2 : Nat → List Addr}
mutual
theorem eqSh_ok : ∀ (s t : Sh), eqSh s t = true → s = t
  | .frz, .frz, _ => rfl
  | .bor, .bor, _ => rfl
  | .lst s, .lst t, h => by rw [eqSh_ok s t h]
  | .dic s, .dic t, h => by rw [eqSh_ok s t h]
  | .tup ss, .tup ts, h => by rw [eqShs_ok ss ts h]
  | .obj ss, .obj ts, h => by rw [eqShf_ok ss ts h]
  | .frz, .bor, h => by cases h
  | .frz, .lst _, h => by cases h
  | .frz, .dic _, h => by cases h
  | .frz, .tup _, h => by cases h
  | .frz, .obj _, h => by cases h
  | .bor, .frz, h => by cases h
  | .bor, .lst _, h => by cases h
  | .bor, .dic _, h => by cases h
  | .bor, .tup _, h => by cases h
  | .bor, .obj _, h => by cases h
  | .lst _, .frz, h => by cases h
  | .lst _, .bor, h => by cases h
  | .lst _, .dic _, h => by cases h
  | .lst _, .tup _, h => by cases h
  | .lst _, .obj _, h => by cases h
  | .dic _, .frz, h => by cases h
  | .dic _, .bor, h => by cases h
  | .dic _, .lst _, h => by cases h
  | .dic _, .tup _, h => by cases h
  | .dic _, .obj _, h => by cases h
  | .tup _, .frz, h => by cases h
  | .tup _, .bor, h => by cases h
  | .tup _, .lst _, h => by cases h
  | .tup _, .dic _, h => by cases h
  | .tup _, .obj _, h => by cases h
  | .obj _, .frz, h => by cases h
  | .obj _, .bor, h => by cases h
  | .obj _, .lst _, h => by cases h
  | .obj _, .dic _, h => by cases h
  | .obj _, .tup _, h => by cases h
theorem eqShs_ok : ∀ (s t : List Sh), eqShs s t = true → s = t
  | [], [], _ => rfl
  | s :: ss, t :: ts, h => by
    obtain ⟨h1, h2⟩ := Bool.and_eq_true_iff.mp (show (eqSh s t && eqShs ss ts) = true from h)
    rw [eqSh_ok s t h1, eqShs_ok ss ts h2]
  | [], _ :: _, h => by cases h
  | _ :: _, [], h => by cases h
theorem eqShf_ok : ∀ (s t : List (Nat × Sh)), eqShf s t = true → s = t
  | [], [], _ => rfl
  | (f, s) :: ss, (g, t) :: ts, h => by
    obtain ⟨h1, h2⟩ := Bool.and_eq_true_iff.mp (show (decide (f = g) && eqSh s t && eqShf ss ts) = true from h)
    obtain ⟨h0, h1⟩ := Bool.and_eq_true_iff.mp h1
    rw [of_decide_eq_true h0, eqSh_ok s t h1, eqShf_ok ss ts h2]
  | [], _ :: _, h => by cases h
  | _ :: _, [], h => by cases h
end
section
variable {w : Wd} {gd : Nat → Nat → Bool}
abbrev TK (H H' : Hp) : Prop := ∀ a xs, H a = some (.tup xs) → H' a = some (.tup xs)
abbrev KO (H H' : Hp) (f : List Addr) : Prop := ∀ a o, a ∈ f → H a = some o → H' a = some o
theorem KO.l {f g : List Addr} (k : KO H H' (f ++ g)) : KO H H' f := fun a o ha => k a o (List.mem_append_left _ ha)
theorem KO.r {f g : List Addr} (k : KO H H' (f ++ g)) : KO H H' g := fun a o ha => k a o (List.mem_append_right _ ha)
theorem RepSs.zip {s : Sh} : ∀ {ds : List D} {vs : List V} {fp : List Addr} {i : Nat} {d : D}, RepSs w F B H ds s vs fp → ds[i]? = some d → ∃ v f1 fq f2, fp = f1 ++ (fq ++ f2) ∧ vs[i]? = some v ∧ RepS w F B H d s v fq ∧
    ∀ F' H' d' fq', Ex F F' → TK H H' → KO H H' (f1 ++ f2) → RepS w F' B H' d' s v fq' → RepSs w F' B H' (ds.set i d') s vs (f1 ++ (fq' ++ f2))
  | [], _, _, _, _, h, e => by simp at e
  | d :: ds, _, _, 0, _, h, e => by
    obtain ⟨v, r, g1, g2, rfl, rfl, e2, e3⟩ := h
    simp at e
    subst e
    exact ⟨v, [], g1, g2, rfl, rfl, e2, fun F' H' d' fq' ef et k r' => ⟨v, r, fq', g2, rfl, rfl, r', RepSs.mono ef (ex_refl B) et ds s r g2 (fun a o ha => k a o ha) e3⟩⟩
  | d :: ds, _, _, i + 1, _, h, e => by
    obtain ⟨v, r, g1, g2, rfl, rfl, e2, e3⟩ := h
    obtain ⟨u, f1, fq, f2, rfl, q1, q2, q3⟩ := RepSs.zip (i := i) e3 (by simpa using e)
    refine ⟨u, g1 ++ f1, fq, f2, by simp, by simpa using q1, q2, fun F' H' d' fq' ef et k r' => ?_⟩
    rw [List.append_assoc] at k
    exact ⟨v, r, g1, f1 ++ (fq' ++ f2), rfl, by simp, RepS.mono ef (ex_refl B) et d s v g1 (fun a o ha => k.l a o ha) e2, q3 F' H' d' fq' ef et k.r r'⟩
theorem RepSk.zip {k : Key} {s : Sh} : ∀ {ds : List (Key × D)} {vs : List (Key × V)} {fp : List Addr} {d : D}, RepSk w F B H ds s vs fp → assoc k ds = some d → ∃ v f1 fq f2, fp = f1 ++ (fq ++ f2) ∧ valV vs k = some v ∧ RepS w F B H d s v fq ∧
    ∀ F' H' d' fq', Ex F F' → TK H H' → KO H H' (f1 ++ f2) → RepS w F' B H' d' s v fq' → RepSk w F' B H' (putA k d' ds) s vs (f1 ++ (fq' ++ f2))
  | [], _, _, _, h, e => by cases e
  | (j, d) :: ds, _, _, _, h, e => by
    obtain ⟨v, r, g1, g2, rfl, rfl, e2, e3⟩ := h
    by_cases c : j = k
    · rw [assoc, if_pos c] at e
      cases e
      refine ⟨v, [], g1, g2, rfl, valV_pos c, e2, fun F' H' d' fq' ef et kk r' => ?_⟩
      rw [putA, if_pos c]
      exact ⟨v, r, fq', g2, rfl, rfl, r', RepSk.mono ef (ex_refl B) et ds s r g2 (fun a o ha => kk a o ha) e3⟩
    · rw [assoc, if_neg c] at e
      obtain ⟨u, f1, fq, f2, rfl, q1, q2, q3⟩ := RepSk.zip e3 e
      refine ⟨u, g1 ++ f1, fq, f2, by simp, (valV_neg c).trans q1, q2, fun F' H' d' fq' ef et kk r' => ?_⟩
      rw [List.append_assoc] at kk
      rw [putA, if_neg c]
      exact ⟨v, r, g1, f1 ++ (fq' ++ f2), rfl, by simp, RepS.mono ef (ex_refl B) et d s v g1 (fun a o ha => kk.l a o ha) e2, q3 F' H' d' fq' ef et kk.r r'⟩
theorem RepSt.zip {k : List Key} {s : Sh} : ∀ {ds : List (List Key × D)} {vs : List (List Key × V)} {fp : List Addr} {d : D}, RepSt w F B H ds s vs fp → assoc k ds = some d → ∃ v f1 fq f2, fp = f1 ++ (fq ++ f2) ∧ valV vs k = some v ∧ RepS w F B H d s v fq ∧
    ∀ F' H' d' fq', Ex F F' → TK H H' → KO H H' (f1 ++ f2) → RepS w F' B H' d' s v fq' → RepSt w F' B H' (putA k d' ds) s vs (f1 ++ (fq' ++ f2))
  | [], _, _, _, h, e => by cases e
  | (j, d) :: ds, _, _, _, h, e => by
    obtain ⟨v, r, g1, g2, rfl, rfl, e2, e3⟩ := h
    by_cases c : j = k
    · rw [assoc, if_pos c] at e
      cases e
      refine ⟨v, [], g1, g2, rfl, valV_pos c, e2, fun F' H' d' fq' ef et kk r' => ?_⟩
      rw [putA, if_pos c]
      exact ⟨v, r, fq', g2, rfl, rfl, r', RepSt.mono ef (ex_refl B) et ds s r g2 (fun a o ha => kk a o ha) e3⟩
    · rw [assoc, if_neg c] at e
      obtain ⟨u, f1, fq, f2, rfl, q1, q2, q3⟩ := RepSt.zip e3 e
      refine ⟨u, g1 ++ f1, fq, f2, by simp, (valV_neg c).trans q1, q2, fun F' H' d' fq' ef et kk r' => ?_⟩
      rw [List.append_assoc] at kk
      rw [putA, if_neg c]
      exact ⟨v, r, g1, f1 ++ (fq' ++ f2), rfl, by simp, RepS.mono ef (ex_refl B) et d s v g1 (fun a o ha => kk.l a o ha) e2, q3 F' H' d' fq' ef et kk.r r'⟩
theorem RepSf.zip (ok : WOk w gd) {f : Nat} : ∀ {ds : List (Nat × D)} {ss : List (Nat × Sh)} {vs : List (Str × V)} {fp : List Addr} {d : D} {s : Sh}, RepSf w F B H ds ss vs fp → fld f ds = some d → fld f ss = some s →
    ∃ v f1 fq f2, fp = f1 ++ (fq ++ f2) ∧ vs.lookup (w.fn f) = some v ∧ RepS w F B H d s v fq ∧
    ∀ F' H' d' s' fq', Ex F F' → TK H H' → KO H H' (f1 ++ f2) → RepS w F' B H' d' s' v fq' → RepSf w F' B H' (fput f d' ds) (fput f s' ss) vs (f1 ++ (fq' ++ f2))
  | [], _, _, _, _, _, h, e, _ => by cases e
  | _ :: _, [], _, _, _, _, h, _, _ => False.elim h
  | (j, d) :: ds, (k, s) :: ss, _, _, _, _, h, e, e' => by
    obtain ⟨v, r, g1, g2, rfl, rfl, rfl, e2, e3⟩ := h
    by_cases c : j = f
    · subst c
      rw [fld, if_pos rfl] at e e'
      cases e
      cases e'
      refine ⟨v, [], g1, g2, rfl, by simp, e2, fun F' H' d' s' fq' ef et kk r' => ?_⟩
      rw [fput, fput, if_pos rfl, if_pos rfl]
      exact ⟨v, r, fq', g2, rfl, rfl, rfl, r', RepSf.mono ef (ex_refl B) et ds ss r g2 (fun a o ha => kk a o ha) e3⟩
    · rw [fld, if_neg c] at e e'
      obtain ⟨u, f1, fq, f2, rfl, q1, q2, q3⟩ := RepSf.zip ok e3 e e'
      have n : (w.fn f == w.fn j) = false := beq_eq_false_iff_ne.mpr fun z => c (ok.inj _ _ z.symm)
      refine ⟨u, g1 ++ f1, fq, f2, by simp, by rw [List.lookup_cons, n]; exact q1, q2, fun F' H' d' s' fq' ef et kk r' => ?_⟩
      rw [List.append_assoc] at kk
      rw [fput, fput, if_neg c, if_neg c]
      exact ⟨v, r, g1, f1 ++ (fq' ++ f2), rfl, rfl, by simp, RepS.mono ef (ex_refl B) et d s v g1 (fun a o ha => kk.l a o ha) e2, q3 F' H' d' s' fq' ef et kk.r r'⟩
theorem RepSu.part : ∀ {ds : List D} {ss : List Sh} {vs : List V} {fp : List Addr} {i : Nat} {d : D} {s : Sh}, RepSu w F B H ds ss vs fp → ds[i]? = some d → ss[i]? = some s → ∃ v f1 fq f2, fp = f1 ++ (fq ++ f2) ∧ vs[i]? = some v ∧ RepS w F B H d s v fq
  | [], [], _, _, _, _, _, h, e, _ => by simp at e
  | [], _ :: _, _, _, _, _, _, h, _, _ => False.elim h
  | _ :: _, [], _, _, _, _, _, h, _, _ => False.elim h
  | d :: ds, s :: ss, _, _, 0, _, _, h, e, e' => by
    obtain ⟨v, r, g1, g2, rfl, rfl, e2, e3⟩ := h
    simp at e e'
    subst e e'
    exact ⟨v, [], g1, g2, rfl, rfl, e2⟩
  | d :: ds, s :: ss, _, _, i + 1, _, _, h, e, e' => by
    obtain ⟨v, r, g1, g2, rfl, rfl, e2, e3⟩ := h
    obtain ⟨u, f1, fq, f2, rfl, q1, q2⟩ := RepSu.part (i := i) e3 (by simpa using e) (by simpa using e')
    exact ⟨u, g1 ++ f1, fq, f2, by simp, by simpa using q1, q2⟩
theorem RepSu.zip : ∀ {ds : List D} {ss : List Sh} {vs : List V} {fp : List Addr} {i : Nat} {d : D} {s : Sh}, RepSu w F B H ds ss vs fp → ds[i]? = some d → ss[i]? = some s → ∃ v f1 fq f2, fp = f1 ++ (fq ++ f2) ∧ vs[i]? = some v ∧ RepS w F B H d s v fq ∧
    ∀ F' H' d' fq', Ex F F' → TK H H' → KO H H' (f1 ++ f2) → RepS w F' B H' d' s v fq' → RepSu w F' B H' (ds.set i d') ss vs (f1 ++ (fq' ++ f2))
  | [], [], _, _, _, _, _, h, e, _ => by simp at e
  | [], _ :: _, _, _, _, _, _, h, _, _ => False.elim h
  | _ :: _, [], _, _, _, _, _, h, _, _ => False.elim h
  | d :: ds, s :: ss, _, _, 0, _, _, h, e, e' => by
    obtain ⟨v, r, g1, g2, rfl, rfl, e2, e3⟩ := h
    simp at e e'
    subst e e'
    exact ⟨v, [], g1, g2, rfl, rfl, e2, fun F' H' d' fq' ef et k r' => ⟨v, r, fq', g2, rfl, rfl, r', RepSu.mono ef (ex_refl B) et ds ss r g2 (fun a o ha => k a o ha) e3⟩⟩
  | d :: ds, s :: ss, _, _, i + 1, _, _, h, e, e' => by
    obtain ⟨v, r, g1, g2, rfl, rfl, e2, e3⟩ := h
    obtain ⟨u, f1, fq, f2, rfl, q1, q2, q3⟩ := RepSu.zip (i := i) e3 (by simpa using e) (by simpa using e')
    refine ⟨u, g1 ++ f1, fq, f2, by simp, by simpa using q1, q2, fun F' H' d' fq' ef et k r' => ?_⟩
    rw [List.append_assoc] at k
    exact ⟨v, r, g1, f1 ++ (fq' ++ f2), rfl, by simp, RepS.mono ef (ex_refl B) et d s v g1 (fun a o ha => k.l a o ha) e2, q3 F' H' d' fq' ef et k.r r'⟩
/-- v is what stands at the place p; it may be changed there -/
def Foc (w : Wd) (gd : Nat → Nat → Bool) (F B H : Hp) (σ : L2.St) (env : Env) (fps : Nat → List Addr) (p : Pl) (x : SD) (v : V) : Prop := ∃ f1 fq f2, fps p.root = f1 ++ (fq ++ f2) ∧ RepS w F B H x.2 x.1 v fq ∧
  ∀ (y z : SD), p.up gd env y = some z → ∃ v0, σ[p.root]? = some (some v0) ∧
    ∀ F' H' fq', Ex F F' → TK H H' → KO H H' (f1 ++ f2) → RepS w F' B H' y.2 y.1 v fq' → RepS w F' B H' z.2 z.1 v0 (f1 ++ (fq' ++ f2))
theorem Foc.mem {p : Pl} {x : SD} {v : V} (h : Foc w gd F B H σ env fps p x v) : ∃ fp, RepS w F B H x.2 x.1 v fp ∧ ∀ a ∈ fp, a ∈ fps p.root := by
  obtain ⟨f1, fq, f2, e, r, _⟩ := h
  exact ⟨fq, r, fun a ha => by rw [e]; exact List.mem_append_right _ (List.mem_append_left _ ha)⟩
theorem foc_var (S : Sta w F B H σ env fps) {i : Nat} {x : SD} (h : env[i]? = some (some x)) : ∃ v, σ[i]? = some (some v) ∧ Foc w gd F B H σ env fps (.var i) x v := by
  obtain ⟨v, e1, r⟩ := S.sl i x.1 x.2 h
  refine ⟨v, e1, [], fps i, [], by simp [Pl.root], r, fun y z hp => ?_⟩
  cases hp
  exact ⟨v, e1, fun F' H' fq' _ _ _ r' => by simpa using r'⟩
/-- a part that is shared cannot be changed -/
theorem foc_none {p : Pl} {x : SD} {v : V} (r : RepS w F B H x.2 x.1 v []) (hn : ∀ y, p.up gd env y = none) : Foc w gd F B H σ env fps p x v :=
  ⟨fps p.root, [], [], by simp, r, fun y z h => by rw [hn y] at h; cases h⟩
theorem foc_attr (ok : WOk w gd) (S : Sta w F B H σ env fps) {p : Pl} {f : Nat} {y : SD} {x : SD} {v : V} (hy : p.get gd env = some y) (hf : Foc w gd F B H σ env fps p y v) (h : attrOf gd y f = some x) :
    ∃ a c dx ws u, v = .ref a ∧ H a = some (.ins (w.ca c) dx ws) ∧ gd c f = true ∧ ws.lookup (w.fn f) = some u ∧ Foc w gd F B H σ env fps (.attr p f) x u := by
  obtain ⟨s, d⟩ := y
  cases d with
  | obj c fs =>
    have hput : ∀ x', Pl.up gd env x' (.attr p f) = (attrPut gd (s, .obj c fs) f x').bind fun z => p.up gd env z := fun x' => by
      show ((p.get gd env).bind fun y => (attrPut gd y f x').bind fun z => p.up gd env z) = _
      rw [hy]
      rfl
    obtain ⟨f1, fq, f2, e0, r, hp⟩ := hf
    obtain ⟨hc, h⟩ := ite_some (show (if gd c f = true then _ else none) = some x from h)
    cases s with
    | frz =>
      obtain ⟨e, q1, rfl⟩ := Option.map_eq_some_iff.mp (show (fld f fs).map (fun d => (Sh.frz, d)) = some x from h)
      obtain ⟨a, dx, ws, e1, e2, e3, e4⟩ := (RepS_frz.mp r).1
      obtain ⟨u, p1, p2⟩ := fld_ok ok e4 q1
      exact ⟨a, c, dx, ws, u, e1, S.fh _ _ e2, hc, p1, foc_none (RepS_frz.mpr ⟨p2, rfl⟩) fun y => by rw [hput]; rfl⟩
    | bor =>
      obtain ⟨e, q1, rfl⟩ := Option.map_eq_some_iff.mp (show (fld f fs).map (fun d => (Sh.bor, d)) = some x from h)
      obtain ⟨a, dx, ws, e1, e2, e3, e4⟩ := (RepS_bor.mp r).1
      obtain ⟨u, p1, p2⟩ := fld_ok ok e4 q1
      exact ⟨a, c, dx, ws, u, e1, S.bh _ _ e2, hc, p1, foc_none (RepS_bor.mpr ⟨p2, rfl⟩) fun y => by rw [hput]; rfl⟩
    | obj ss =>
      obtain ⟨a, dx, ws, fr, e1, rfl, e3, e4, e5⟩ := r
      have h' : (match fld f ss, fld f fs with | some s, some d => some (s, d) | _, _ => none) = some x := h
      split at h'
      · rename_i s' d' z1 z2
        cases h'
        obtain ⟨u, g1, gq, g2, rfl, p1, p2, p3⟩ := RepSf.zip ok e5 z2 z1
        refine ⟨a, c, dx, ws, u, e1, e3, hc, p1, f1 ++ (a :: dx :: g1), gq, g2 ++ f2, by rw [show (Pl.attr p f).root = p.root from rfl, e0]; simp, p2, fun y z hpt => ?_⟩
        rw [hput] at hpt
        obtain ⟨y', hy', hpt⟩ := Option.bind_eq_some_iff.mp hpt
        obtain ⟨ys, yd⟩ := y
        obtain ⟨hcc, hy'⟩ := ite_some (show (if (gd c f && noB ys && decide (fs.length < 1000)) = true then some (Sh.obj (fput f ys ss), D.obj c (fput f yd fs)) else none) = some y' from hy')
        cases hy'
        obtain ⟨v0, k2, k3⟩ := hp _ z hpt
        refine ⟨v0, k2, fun F' H' fq' ef et kk r' => ?_⟩
        have m1 : ∀ b, b ∈ f1 → b ∈ (f1 ++ (a :: dx :: g1)) ++ (g2 ++ f2) := fun b hb => by simp [hb]
        have m2 : ∀ b, b ∈ f2 → b ∈ (f1 ++ (a :: dx :: g1)) ++ (g2 ++ f2) := fun b hb => by simp [hb]
        have := k3 F' H' (a :: dx :: (g1 ++ (fq' ++ g2))) ef et (fun b o hb => kk b o ((List.mem_append.mp hb).elim (m1 b) (m2 b)))
          ⟨a, dx, ws, g1 ++ (fq' ++ g2), e1, rfl, kk a _ (by simp) e3, kk dx _ (by simp) e4, p3 F' H' yd ys fq' ef et (fun b o hb => kk b o (by
            rcases List.mem_append.mp hb with q | q <;> simp [q])) r'⟩
        simpa using this
      · cases h'
    | _ => cases h
  | _ => cases h
theorem foc_ix (S : Sta w F B H σ env fps) {p : Pl} {ki : PIx} {y : SD} {k : D} {x : SD} {v : V} (hy : p.get gd env = some y) (hk : ki.get env = some k) (hf : Foc w gd F B H σ env fps p y v) (h : itemOf y k = some x) :
    ∃ u, Foc w gd F B H σ env fps (.ix p ki) x u ∧ Reads1 w H v k u := by
  have hput : ∀ x', Pl.up gd env x' (.ix p ki) = (itemPut y k x').bind fun z => p.up gd env z := fun x' => by
    show ((p.get gd env).bind fun y => (ki.get env).bind fun d => (itemPut y d x').bind fun z => p.up gd env z) = _
    rw [hy, hk]
    rfl
  have triv : ∀ {u fq}, RepS w F B H x.2 x.1 u fq → fq = [] → (∀ y', itemPut y k y' = none) → Foc w gd F B H σ env fps (.ix p ki) x u := fun {u fq} r e n => by
    subst e
    exact foc_none r fun y' => by rw [hput, n]; rfl
  have hf' := hf
  obtain ⟨f1, fq, f2, e0, r, hp⟩ := hf
  obtain ⟨s, d⟩ := y
  have noput : (∀ t, s ≠ .lst t) → (∀ t, s ≠ .dic t) → (∀ t, s ≠ .tup t) → ∀ y', itemPut (s, d) k y' = none := fun n1 n2 n0 y' => by
    cases s <;> first | rfl | exact (n1 _ rfl).elim | exact (n2 _ rfl).elim | exact (n0 _ rfl).elim
  obtain ⟨xs, xd⟩ := x
  have simple : (∀ t, s ≠ .lst t) → (∀ t, s ≠ .dic t) → (∀ t, s ≠ .tup t) → fq = [] → ∃ u, Foc w gd F B H σ env fps (.ix p ki) (xs, xd) u ∧ Reads1 w H v k u := fun n1 n2 n0 n3 => by
    obtain ⟨u, gq, q1, q2, q3⟩ := item_ok S.fh S.bh r h
    refine ⟨u, ?_, q3⟩
    have eg : gq = [] := List.eq_nil_iff_forall_not_mem.mpr fun a ha => by
      have := q1 a ha
      rw [n3] at this
      cases this
    subst eg
    exact foc_none q2 fun y' => by rw [hput, noput n1 n2 n0]; rfl
  cases s with
  | lst t =>
    cases d with
    | lst ds =>
      cases k with
      | int i =>
        obtain ⟨d', q1, q2⟩ := Option.map_eq_some_iff.mp (show (atD ds i).map (fun d => (t, d)) = some (xs, xd) from h)
        cases q2
        obtain ⟨a, vs, fr, e1, rfl, e3, e4⟩ := r
        have q1' : L2.atI ds i = some xd := q1
        unfold L2.atI at q1'
        obtain ⟨j, j1, j2⟩ := Option.bind_eq_some_iff.mp q1'
        obtain ⟨u, g1, gq, g2, rfl, p1, p2, p3⟩ := e4.zip j2
        refine ⟨u, ⟨f1 ++ (a :: g1), gq, g2 ++ f2, by rw [show (Pl.ix p ki).root = p.root from rfl, e0]; simp, p2, fun y z hpt => ?_⟩, fun y Q hy' q => .inl (.inl ⟨a, vs, i, u, e1, hy', SqL.of e3, ?_, q⟩)⟩
        · rw [hput] at hpt
          obtain ⟨y', hy', hpt⟩ := Option.bind_eq_some_iff.mp hpt
          obtain ⟨ys, yd⟩ := y
          obtain ⟨hcc, hy'⟩ := ite_some (show (if eqSh ys xs = true then (ixN ds.length i).map (fun j => (Sh.lst xs, D.lst (ds.set j yd))) else none) = some y' from hy')
          obtain ⟨j', j3, rfl⟩ := Option.map_eq_some_iff.mp hy'
          have ej : j' = j := by
            have j3' : L2.ixN ds.length i = some j' := j3
            rw [j1] at j3'
            exact (Option.some.inj j3').symm
          subst ej
          have et' := eqSh_ok ys xs hcc
          subst et'
          obtain ⟨v0, k2, k3⟩ := hp _ z hpt
          refine ⟨v0, k2, fun F' H' fq' ef et kk r' => ?_⟩
          have m1 : ∀ b, b ∈ f1 → b ∈ (f1 ++ (a :: g1)) ++ (g2 ++ f2) := fun b hb => by simp [hb]
          have m2 : ∀ b, b ∈ f2 → b ∈ (f1 ++ (a :: g1)) ++ (g2 ++ f2) := fun b hb => by simp [hb]
          have := k3 F' H' (a :: (g1 ++ (fq' ++ g2))) ef et (fun b o hb => kk b o ((List.mem_append.mp hb).elim (m1 b) (m2 b)))
            ⟨a, vs, g1 ++ (fq' ++ g2), e1, rfl, kk a _ (by simp) e3, p3 F' H' yd fq' ef et (fun b o hb => kk b o (by
              rcases List.mem_append.mp hb with q | q <;> simp [q])) r'⟩
          simpa using this
        · unfold L2.atI
          rw [RepSs.length e4, j1]
          exact p1
      | _ => cases h
    | _ => exact False.elim r
  | dic t =>
    cases d with
    | dic kvs =>
      obtain ⟨d', q1, q2⟩ := Option.map_eq_some_iff.mp (show ((keyOf k).bind fun k => assoc k kvs).map (fun d => (t, d)) = some (xs, xd) from h)
      cases q2
      obtain ⟨key, q3, q4⟩ := Option.bind_eq_some_iff.mp q1
      obtain ⟨a, ws, fr, e1, rfl, e3, e4⟩ := r
      obtain ⟨u, g1, gq, g2, rfl, p1, p2, p3⟩ := e4.zip q4
      refine ⟨u, ⟨f1 ++ (a :: g1), gq, g2 ++ f2, by rw [show (Pl.ix p ki).root = p.root from rfl, e0]; simp, p2, fun y z hpt => ?_⟩, fun y Q hy' q => .inr ⟨a, u, e1, .inl ⟨ws, key, Rd.of e3, keyOf_v hy' q3, p1.symm⟩, q⟩⟩
      rw [hput] at hpt
      obtain ⟨y', hy', hpt⟩ := Option.bind_eq_some_iff.mp hpt
      obtain ⟨ys, yd⟩ := y
      obtain ⟨hcc, hy'⟩ := ite_some (show (if (eqSh ys xs && decide (kvs.length < sizeLine)) = true then (keyOf k).map (fun k => (Sh.dic xs, D.dic (putA k yd kvs))) else none) = some y' from hy')
      rw [q3] at hy'
      cases hy'
      have et' := eqSh_ok ys xs (and2 hcc).1
      subst et'
      obtain ⟨v0, k2, k3⟩ := hp _ z hpt
      refine ⟨v0, k2, fun F' H' fq' ef et kk r' => ?_⟩
      have m1 : ∀ b, b ∈ f1 → b ∈ (f1 ++ (a :: g1)) ++ (g2 ++ f2) := fun b hb => by simp [hb]
      have m2 : ∀ b, b ∈ f2 → b ∈ (f1 ++ (a :: g1)) ++ (g2 ++ f2) := fun b hb => by simp [hb]
      have := k3 F' H' (a :: (g1 ++ (fq' ++ g2))) ef et (fun b o hb => kk b o ((List.mem_append.mp hb).elim (m1 b) (m2 b)))
        ⟨a, ws, g1 ++ (fq' ++ g2), e1, rfl, kk a _ (by simp) e3, p3 F' H' yd fq' ef et (fun b o hb => kk b o (by
          rcases List.mem_append.mp hb with q | q <;> simp [q])) r'⟩
      simpa using this
    | dit kvs =>
      obtain ⟨d', q1, q2⟩ := Option.map_eq_some_iff.mp (show ((tkeyOf k).bind fun k => assoc k kvs).map (fun d => (t, d)) = some (xs, xd) from h)
      cases q2
      obtain ⟨key, q3, q4⟩ := Option.bind_eq_some_iff.mp q1
      obtain ⟨a, ws, fr, e1, rfl, e3, e4⟩ := r
      obtain ⟨u, g1, gq, g2, rfl, p1, p2, p3⟩ := e4.zip q4
      refine ⟨u, ⟨f1 ++ (a :: g1), gq, g2 ++ f2, by rw [show (Pl.ix p ki).root = p.root from rfl, e0]; simp, p2, fun y z hpt => ?_⟩, fun y Q hy' q => by
        obtain ⟨b, b1, b2⟩ := tkeyOf_v hy' q3
        exact .inr ⟨a, u, e1, .inr ⟨ws, key, b, Rd.of e3, b1, b2, p1.symm⟩, q⟩⟩
      rw [hput] at hpt
      obtain ⟨y', hy', hpt⟩ := Option.bind_eq_some_iff.mp hpt
      obtain ⟨ys, yd⟩ := y
      obtain ⟨hcc, hy'⟩ := ite_some (show (if (eqSh ys xs && decide (kvs.length < sizeLine)) = true then (tkeyOf k).map (fun k => (Sh.dic xs, D.dit (putA k yd kvs))) else none) = some y' from hy')
      rw [q3] at hy'
      cases hy'
      have et' := eqSh_ok ys xs (and2 hcc).1
      subst et'
      obtain ⟨v0, k2, k3⟩ := hp _ z hpt
      refine ⟨v0, k2, fun F' H' fq' ef et kk r' => ?_⟩
      have m1 : ∀ b, b ∈ f1 → b ∈ (f1 ++ (a :: g1)) ++ (g2 ++ f2) := fun b hb => by simp [hb]
      have m2 : ∀ b, b ∈ f2 → b ∈ (f1 ++ (a :: g1)) ++ (g2 ++ f2) := fun b hb => by simp [hb]
      have := k3 F' H' (a :: (g1 ++ (fq' ++ g2))) ef et (fun b o hb => kk b o ((List.mem_append.mp hb).elim (m1 b) (m2 b)))
        ⟨a, ws, g1 ++ (fq' ++ g2), e1, rfl, kk a _ (by simp) e3, p3 F' H' yd fq' ef et (fun b o hb => kk b o (by
          rcases List.mem_append.mp hb with q | q <;> simp [q])) r'⟩
      simpa using this
    | _ => exact False.elim r
  | frz => exact simple (fun _ z => by cases z) (fun _ z => by cases z) (fun _ z => by cases z) (RepS_frz.mp r).2
  | bor => exact simple (fun _ z => by cases z) (fun _ z => by cases z) (fun _ z => by cases z) (RepS_bor.mp r).2
  | tup ss =>
    cases d with
    | tup ds =>
      cases k with
      | int i =>
        obtain ⟨j, q1, q2⟩ := Option.bind_eq_some_iff.mp (show ((ixN ds.length i).bind fun j => match ss[j]?, ds[j]? with | some t, some d => some (t, d) | _, _ => none) = some (xs, xd) from h)
        obtain ⟨a, vs, e1, e3, e4⟩ := r
        split at q2
        · rename_i t' d' z1 z2
          cases q2
          obtain ⟨u, g1, gq, g2, e5, p3, p4, p5⟩ := e4.zip z2 z1
          refine ⟨u, ⟨f1 ++ g1, gq, g2 ++ f2, by rw [show (Pl.ix p ki).root = p.root from rfl, e0, e5]; simp, p4, fun y z hpt => ?_⟩, fun y Q hy' q => .inl (.inr (.inl ⟨a, vs, i, u, e1, hy', SqT.of e3, ?_, q⟩))⟩
          · rw [hput] at hpt
            obtain ⟨y', hy', hpt⟩ := Option.bind_eq_some_iff.mp hpt
            obtain ⟨ys, yd⟩ := y
            obtain ⟨j', j3, hy'⟩ := Option.bind_eq_some_iff.mp (show ((ixN ds.length i).bind fun j => (ss[j]?).bind fun t => if eqSh ys t = true then some (Sh.tup ss, D.tup (ds.set j yd)) else none) = some y' from hy')
            rw [q1] at j3
            cases j3
            obtain ⟨t', j4, hy'⟩ := Option.bind_eq_some_iff.mp hy'
            rw [z1] at j4
            cases j4
            obtain ⟨hcc, hy'⟩ := ite_some hy'
            cases hy'
            have et' := eqSh_ok ys xs hcc
            subst et'
            obtain ⟨v0, k2, k3⟩ := hp _ z hpt
            refine ⟨v0, k2, fun F' H' fq' ef et kk r' => ?_⟩
            have m1 : ∀ b, b ∈ f1 → b ∈ (f1 ++ g1) ++ (g2 ++ f2) := fun b hb => by simp [hb]
            have m2 : ∀ b, b ∈ f2 → b ∈ (f1 ++ g1) ++ (g2 ++ f2) := fun b hb => by simp [hb]
            have := k3 F' H' (g1 ++ (fq' ++ g2)) ef et (fun b o hb => kk b o ((List.mem_append.mp hb).elim (m1 b) (m2 b)))
              ⟨a, vs, e1, et a _ e3, p5 F' H' yd fq' ef et (fun b o hb => kk b o (by
                rcases List.mem_append.mp hb with q | q <;> simp [q])) r'⟩
            simpa using this
          · unfold L2.atI
            rw [RepSu.length e4]
            have q1' : L2.ixN ds.length i = some j := q1
            rw [q1']
            exact p3
        · cases q2
      | _ => cases h
    | _ => exact False.elim r
  | obj ss =>
    cases d with
    | obj c fs => cases k <;> cases h
    | _ => exact False.elim r
end
end DI
/-! DI7h: changes of lists. -/
namespace DI
open PySem L2
variable {F F' F1 F2 B B' H H' H1 H2 : Hp} {σ : L2.St} {env env1 env2 : Env} {fps fps' fps1 fps2 : Nat → List Addr}
section
variable {X : Cx} {g : Gam} {w : Wd} {sg : Sig} {cl : Calls} {W : WX}
def tPlF (w : Wd) (gd : Nat → Nat → Bool) (p : Pl) : TE := fun σ H Q => ∃ env F B fps x, Sta w F B H σ env fps ∧ p.get gd env = some x ∧ ∀ v, Foc w gd F B H σ env fps p x v → Q v H
theorem pe_plF (C : Ctx X g w sg W) : ∀ {p : Pl} {e : Expr}, matchPl g p e = true → PE X e (tPlF w sg.gd p)
  | .var i, .Name x pos, h => by
    obtain ⟨h1, h2, h3, h4⟩ := slot_ok C (show g.slot i x = true from h)
    refine PE.imp (pe_var h1 h2 h3 h4) fun σ H Q ⟨env, F, B, fps, x, S, hx, k⟩ => ?_
    have hx' : (match env[i]? with | some (some x) => some x | _ => none) = some x := hx
    split at hx'
    · rename_i y q
      cases hx'
      obtain ⟨v, e1, f⟩ := foc_var (gd := sg.gd) S q
      exact ⟨v, e1, k v f⟩
    · cases hx'
  | .attr p f, .Attribute e a pos, h => by
    obtain ⟨h1, h2⟩ := and2 (show (decide (a = g.fn f) && matchPl g p e) = true from h)
    have ea : a = w.fn f := (of_decide_eq_true h1).trans (C.gfn f)
    subst ea
    have hb : baseOk e = true := by
      cases p <;> cases e <;> first | rfl | cases h2
    refine PE.imp (pe_fld (pe_plF C h2) (base_ok hb _ _)) fun σ H Q ⟨env, F, B, fps, x, S, hx, k⟩ => ?_
    obtain ⟨y, q1, q2⟩ := Option.bind_eq_some_iff.mp (show ((p.get sg.gd env).bind fun x => attrOf sg.gd x f) = some x from hx)
    refine ⟨env, F, B, fps, y, S, q1, fun v hf => ?_⟩
    obtain ⟨a, c, dx, ws, u, e1, e2, e3, e4, e5⟩ := foc_attr C.wok S q1 hf q2
    obtain ⟨k1, k2⟩ := C.wok.cls c f e3
    rw [C.K]
    exact ⟨a, _, dx, ws, u, e1, e2, k1, k2, e4, k u e5⟩
  | .ix p ki, .Subscript e j pos, h => by
    obtain ⟨h1, h2⟩ := and2 (show (matchPl g p e && matchIx g ki j) = true from h)
    refine PE.imp (pe_ix (ix_any (by have := C.un; omega)) (pe_plF C h1) (pe_pix C h2) (plain_ix (pix_plain h2))) fun σ H Q ⟨env, F, B, fps, x, S, hx, k⟩ => ?_
    obtain ⟨y, q1, q2⟩ := Option.bind_eq_some_iff.mp (show ((p.get sg.gd env).bind fun x => (ki.get env).bind fun d => itemOf x d) = some x from hx)
    obtain ⟨kd, q3, q4⟩ := Option.bind_eq_some_iff.mp q2
    refine ⟨env, F, B, fps, y, S, q1, fun v hf => ⟨env, F, B, fps, kd, S, q3, fun y' hy => ?_⟩⟩
    obtain ⟨u, e2, e3⟩ := foc_ix S q1 q3 hf q4
    rw [C.K]
    exact e3 y' Q hy (k u e2)
/-! ### a name's thing is changed -/
def stp (fps : Nat → List Addr) (i : Nat) (fp : List Addr) : Nat → List Addr := fun j => if j = i then fp else fps j
theorem stp_same {i : Nat} {fp : List Addr} : stp fps i fp i = fp := if_pos rfl
theorem stp_ne {i j : Nat} {fp : List Addr} (h : j ≠ i) : stp fps i fp j = fps j := if_neg h
theorem Sta.put {i : Nat} {z : SD} {v0 : V} {fpn : List Addr} (S : Sta w F B H σ env fps) (hv : σ[i]? = some (some v0)) (ff : Ex F F') (fh : Ex F' H') (bh : Ex B H') (tk : TK H H') (ko : ∀ j, j ≠ i → KO H H' (fps j)) (nf : ∀ j, j ≠ i → ∀ a ∈ fps j, F' a = none)
    (r : RepS w F' B H' z.2 z.1 v0 fpn) (nd : fpn.Nodup) (no : ∀ a ∈ fpn, F' a = none ∧ B a = none) (ds : ∀ a ∈ fpn, ∀ j, j ≠ i → a ∉ fps j) : Sta w F' B H' σ (env.set i (some z)) (stp fps i fpn) := by
  refine ⟨fh, bh, by rw [List.length_set]; exact S.ln, fun j s d e => ?_, fun j a ha => ?_, fun j a ha => ?_, fun j => ?_, fun j k a h1 h2 => ?_, S.io⟩
  · by_cases hj : j = i
    · subst hj
      rw [List.getElem?_set] at e
      simp only [if_true] at e
      split at e
      · cases e
        exact ⟨v0, hv, by rw [stp_same]; exact r⟩
      · cases e
    · rw [List.getElem?_set_ne (fun q => hj q.symm)] at e
      obtain ⟨v, e1, r1⟩ := S.sl j s d e
      exact ⟨v, e1, by rw [stp_ne hj]; exact RepS.mono ff (ex_refl B) tk d s v _ (ko j hj) r1⟩
  all_goals by_cases hj : j = i
  · subst hj
    rw [stp_same] at ha
    exact no a ha
  · rw [stp_ne hj] at ha
    exact ⟨nf j hj a ha, (S.nf j a ha).2⟩
  · subst hj
    rw [stp_same] at ha
    exact RepS.held _ _ _ _ r a ha
  · rw [stp_ne hj] at ha
    obtain ⟨o, e, n⟩ := S.hd j a ha
    exact ⟨o, ko j hj a o ha e, n⟩
  · subst hj
    rw [stp_same]
    exact nd
  · rw [stp_ne hj]
    exact S.nd j
  · subst hj
    rw [stp_same] at h1
    by_cases hk : k = j
    · exact hk.symm
    · rw [stp_ne hk] at h2
      exact absurd h2 (ds a h1 k hk)
  · rw [stp_ne hj] at h1
    by_cases hk : k = i
    · subst hk
      rw [stp_same] at h2
      exact absurd h1 (ds a h2 j hj)
    · rw [stp_ne hk] at h2
      exact S.sp j k a h1 h2
/-- the list at a place, behind the arguments -/
theorem foc_lst {p : Pl} {gd : Nat → Nat → Bool} {ef : List Nat} {t : Sh} {ds : List D} {v : V} (S : Sta w F B H σ env fps) (hf : Foc w gd F B H σ env fps p (.lst t, .lst ds) v) (hr : p.root ∉ ef) (T : Stp ef F H fps F1 H1 fps1) :
    ∃ a us fr f1 f2, v = .ref a ∧ fps1 p.root = f1 ++ ((a :: fr) ++ f2) ∧ H1 a = some (.lst us) ∧ RepSs w F1 B H1 ds t us fr ∧ ∀ (y z : SD), p.up gd env y = some z → ∃ v0, σ[p.root]? = some (some v0) ∧
      ∀ F' H' fq', Ex F1 F' → TK H1 H' → KO H1 H' (f1 ++ f2) → RepS w F' B H' y.2 y.1 v fq' → RepS w F' B H' z.2 z.1 v0 (f1 ++ (fq' ++ f2)) := by
  obtain ⟨f1, fq, f2, e0, r, hp⟩ := hf
  have r' : ∃ a vs fr, v = .ref a ∧ fq = a :: fr ∧ H a = some (.lst vs) ∧ RepSs w F B H ds t vs fr := r
  obtain ⟨a, us, fr, rfl, rfl, e3, e4⟩ := r'
  have er : fps1 p.root = fps p.root := T.sm _ hr
  have apart : ∀ b ∈ fps p.root, ∀ i ∈ ef, b ∉ fps i := fun b hb i hi hm => hr (by rw [S.sp p.root i b hb hm]; exact hi)
  have m : ∀ b, b ∈ a :: fr → b ∈ fps p.root := fun b hb => by rw [e0]; exact List.mem_append_right _ (List.mem_append_left _ hb)
  refine ⟨a, us, fr, f1, f2, rfl, er.trans e0, T.fr a _ e3 (apart a (m a (.head _))), ?_, fun y z hz => ?_⟩
  · exact RepSs.mono T.ff (ex_refl B) (T.tup S) ds t us fr (fun b o hb e => T.fr b o e (apart b (m b (.tail _ hb)))) e4
  · obtain ⟨v0, k1, k2⟩ := hp y z hz
    refine ⟨v0, k1, fun F' H' fq' ef' tk ko r1 => k2 F' H' fq' (ex_trans T.ff ef') (fun b xs e => tk b xs (T.tup S b xs e)) (fun b o hb e => ko b o hb (T.fr b o e (apart b ?_))) r1⟩
    rw [e0]
    rcases List.mem_append.mp hb with q | q
    · exact List.mem_append_left _ q
    · exact List.mem_append_right _ (List.mem_append_right _ q)
/-- .. is rewritten -/
theorem put_lst {i : Nat} {a : Addr} {us us' : List V} {fr fr' fpx fpr f1 f2 : List Addr} {t' : Sh} {ds' : List D} {z r : SD} {v0 vr : V} {ef : List Nat} (T : Stp ef F H fps F1 H1 fps1) (Fx : Fr ef H fps fpx) (S1 : Sta w F1 B H1 σ env1 fps1) (e0 : fps1 i = f1 ++ ((a :: fr) ++ f2)) (ha : H1 a = some (.lst us)) (K1 : Kp F1 B H1 fps1 fpx)
    (hv : σ[i]? = some (some v0)) (hup : ∀ F' H' fq', Ex F1 F' → TK H1 H' → KO H1 H' (f1 ++ f2) → RepS w F' B H' (.lst ds') (.lst t') (.ref a) fq' → RepS w F' B H' z.2 z.1 v0 (f1 ++ (fq' ++ f2)))
    (R : RepSs w F1 B H1 ds' t' us' fr') (nd : (fr' ++ fpr).Nodup) (sub : ∀ b ∈ fr' ++ fpr, b ∈ fr ++ fpx) (Rr : RepS w F1 B H1 r.2 r.1 vr fpr) :
    ∃ fps2, Sta w F1 B (upd H1 a (.lst us')) σ (env1.set i (some z)) fps2 ∧ Stp (i :: ef) F H fps F1 (upd H1 a (.lst us')) fps2 ∧ RepS w F1 B (upd H1 a (.lst us')) r.2 r.1 vr fpr ∧ Kp F1 B (upd H1 a (.lst us')) fps2 fpr ∧ Fr (i :: ef) H fps fpr := by
  have ndI := S1.nd i
  rw [e0] at ndI
  obtain ⟨n1, n2, n3⟩ := List.nodup_append.mp ndI
  obtain ⟨n4, n5, n6⟩ := List.nodup_append.mp n2
  obtain ⟨n7, n8⟩ := List.nodup_cons.mp n4
  have inI : ∀ b, b ∈ f1 ∨ b = a ∨ b ∈ fr ∨ b ∈ f2 → b ∈ fps1 i := fun b hb => by
    rw [e0]
    rcases hb with q | q | q | q <;> simp [q]
  have aF := S1.nf i a (inI a (.inr (.inl rfl)))
  have ax : a ∉ fpx := fun q => K1.ds a q i (inI a (.inr (.inl rfl)))
  have ne : ∀ b, b ∈ fr ++ fpx → b ≠ a := fun b hb e => by
    subst e
    rcases List.mem_append.mp hb with q | q
    · exact n7 q
    · exact ax q
  have ko : ∀ {l : List Addr}, a ∉ l → KO H1 (upd H1 a (.lst us')) l := fun hl b o hb e => by rw [upd_ne fun q => hl (by rw [← q]; exact hb)]; exact e
  have tk : TK H1 (upd H1 a (.lst us')) := fun b xs e => by
    rw [upd_ne fun q => by rw [q, ha] at e; cases e]
    exact e
  have up : ∀ b o, H1 b = some o → (upd H1 a (.lst us')) b ≠ none := fun b o e => by
    by_cases q : b = a
    · rw [q, upd_same]; exact fun z => by cases z
    · rw [upd_ne q, e]; exact fun z => by cases z
  have af1 : a ∉ f1 := fun q => n3 a q a (by simp) rfl
  have af2 : a ∉ f2 := fun q => n6 a (by simp) a q rfl
  have afr' : ∀ b ∈ fr' ++ fpr, b ≠ a := fun b hb => ne b (sub b hb)
  have fh : Ex F1 (upd H1 a (.lst us')) := fun b o e => by
    rw [upd_ne fun q => by rw [q, aF.1] at e; cases e]
    exact S1.fh b o e
  have bh : Ex B (upd H1 a (.lst us')) := fun b o e => by
    rw [upd_ne fun q => by rw [q, aF.2] at e; cases e]
    exact S1.bh b o e
  have R2 := RepSs.mono (ex_refl F1) (ex_refl B) tk ds' t' us' fr' (ko fun q => afr' a (List.mem_append_left _ q) rfl) R
  have Rr2 := RepS.mono (ex_refl F1) (ex_refl B) tk r.2 r.1 vr fpr (ko fun q => afr' a (List.mem_append_right _ q) rfl) Rr
  have Z := hup F1 (upd H1 a (.lst us')) (a :: fr') (ex_refl F1) tk (ko fun q => (List.mem_append.mp q).elim af1 af2) ⟨a, us', fr', rfl, rfl, upd_same, R2⟩
  obtain ⟨d1, d2, d3⟩ := List.nodup_append.mp nd
  -- where they come from
  have src : ∀ b ∈ fr' ++ fpr, (b ∈ fps1 i ∧ b ∈ fr) ∨ b ∈ fpx := fun b hb => by
    rcases List.mem_append.mp (sub b hb) with q | q
    · exact .inl ⟨inI b (.inr (.inr (.inl q))), q⟩
    · exact .inr q
  have far : ∀ b ∈ fr' ++ fpr, b ∉ f1 ∧ b ∉ f2 := fun b hb => by
    rcases src b hb with ⟨_, q⟩ | q
    · exact ⟨fun z => n3 b z b (by simp [q]) rfl, fun z => n6 b (by simp [q]) b z rfl⟩
    · exact ⟨fun z => K1.ds b q i (inI b (.inl z)), fun z => K1.ds b q i (inI b (.inr (.inr (.inr z))))⟩
  have oth : ∀ b ∈ fr' ++ fpr, ∀ j, j ≠ i → b ∉ fps1 j := fun b hb j hj hm => by
    rcases src b hb with ⟨q, _⟩ | q
    · exact hj (S1.sp j i b hm q)
    · exact K1.ds b q j hm
  have no : ∀ b ∈ fr' ++ fpr, F1 b = none ∧ B b = none := fun b hb => by
    rcases src b hb with ⟨q, _⟩ | q
    · exact S1.nf i b q
    · exact K1.nf b q
  have ndN : (f1 ++ ((a :: fr') ++ f2)).Nodup := by
    refine List.nodup_append.mpr ⟨n1, List.nodup_append.mpr ⟨List.nodup_cons.mpr ⟨fun q => afr' a (List.mem_append_left _ q) rfl, d1⟩, n5, fun b hb c hc e => ?_⟩, fun b hb c hc e => ?_⟩
    · subst e
      rcases List.mem_cons.mp hb with q | q
      · exact af2 (by rw [← q]; exact hc)
      · exact (far b (List.mem_append_left _ q)).2 hc
    · subst e
      rcases List.mem_append.mp hc with q | q
      · rcases List.mem_cons.mp q with q | q
        · exact af1 (by rw [← q]; exact hb)
        · exact (far b (List.mem_append_left _ q)).1 hb
      · exact n3 b hb b (by simp [q]) rfl
  have back : ∀ b ∈ fps1 i, H b = none ∨ ∃ j ∈ i :: ef, b ∈ fps j := fun b hb => by
    by_cases hi : i ∈ ef
    · rcases T.nw i hi b hb with q | ⟨k, hk, q⟩
      · exact .inl q
      · exact .inr ⟨k, .tail i hk, q⟩
    · rw [T.sm i hi] at hb
      exact .inr ⟨i, .head _, hb⟩
  have inN : ∀ b ∈ f1 ++ ((a :: fr') ++ f2), b ∈ fps1 i ∨ b ∈ fr' := fun b hb => by
    rcases List.mem_append.mp hb with q | q
    · exact .inl (inI b (.inl q))
    · rcases List.mem_append.mp q with q | q
      · rcases List.mem_cons.mp q with q | q
        · exact .inl (inI b (.inr (.inl q)))
        · exact .inr q
      · exact .inl (inI b (.inr (.inr (.inr q))))
  refine ⟨stp fps1 i (f1 ++ ((a :: fr') ++ f2)), ?_, ?_, Rr2, ?_⟩
  · refine Sta.put S1 hv (ex_refl F1) fh bh tk (fun j hj => ko fun q => hj (S1.sp j i a q (inI a (.inr (.inl rfl))))) (fun j _ b hb => (S1.nf j b hb).1) Z ndN (fun b hb => ?_) fun b hb j hj => ?_
    · rcases inN b hb with q | q
      · exact S1.nf i b q
      · exact no b (List.mem_append_left _ q)
    · rcases inN b hb with q | q
      · exact fun hm => hj (S1.sp j i b hm q)
      · exact oth b (List.mem_append_left _ q) j hj
  · refine ⟨T.ff, fh, fun b o e => (T.weak (fun j hj => .tail i hj)).fn b o e, fun b o e hn => ?_, fun b e => ?_, fun j hj => ?_, fun j hj b hb => ?_⟩
    · have e1 := T.fr b o e fun j hj => hn j (.tail i hj)
      rw [upd_ne fun q => ?_]
      · exact e1
      · subst q
        rcases back b (inI b (.inr (.inl rfl))) with q | ⟨j, hj, q⟩
        · rw [e] at q
          cases q
        · exact hn j hj q
    · have e1 := T.al b e
      cases q : H1 b with
      | none => exact absurd q e1
      | some o => exact up b o q
    · rw [stp_ne fun q => hj (by rw [q]; exact .head _)]
      exact T.sm j fun q => hj (.tail i q)
    · by_cases hji : j = i
      · subst hji
        rw [stp_same] at hb
        rcases inN b hb with q | q
        · exact back b q
        · rcases src b (List.mem_append_left _ q) with ⟨q2, _⟩ | q2
          · exact back b q2
          · exact Fx.weak (fun j hj => .tail _ hj) b q2
      · rw [stp_ne hji] at hb
        have hj' : j ∈ ef := (List.mem_cons.mp hj).resolve_left hji
        rcases T.nw j hj' b hb with q | ⟨k, hk, q⟩
        · exact .inl q
        · exact .inr ⟨k, .tail i hk, q⟩
  · refine ⟨⟨d2, fun b hb => no b (List.mem_append_right _ hb), RepS.held _ _ _ _ Rr2, fun b hb j hj => ?_⟩, fun b hb => ?_⟩
    rotate_left
    · rcases src b (List.mem_append_right _ hb) with ⟨q2, _⟩ | q2
      · exact back b q2
      · exact Fx.weak (fun j hj => .tail _ hj) b q2
    by_cases hji : j = i
    · subst hji
      rw [stp_same] at hj
      rcases List.mem_append.mp hj with q | q
      · exact (far b (List.mem_append_right _ hb)).1 q
      · rcases List.mem_append.mp q with q | q
        · rcases List.mem_cons.mp q with q | q
          · exact afr' b (List.mem_append_right _ hb) q
          · exact d3 b q b hb rfl
        · exact (far b (List.mem_append_right _ hb)).2 q
    · rw [stp_ne hji] at hj
      exact oth b (List.mem_append_right _ hb) j hji hj
end
end DI
/-! DI7i: the methods that change lists. -/
namespace DI
open PySem L2
variable {F F' F1 F2 B B' H H' H1 H2 : Hp} {σ : L2.St} {env env1 env2 : Env} {fps fps' fps1 fps2 : Nat → List Addr}
section
variable {X : Cx} {g : Gam} {w : Wd} {sg : Sig} {cl : Calls} {W : WX}
theorem RepSs.app {t : Sh} : ∀ {ds es : List D} {us ws : List V} {f1 f2 : List Addr}, RepSs w F B H ds t us f1 → RepSs w F B H es t ws f2 → RepSs w F B H (ds ++ es) t (us ++ ws) (f1 ++ f2)
  | [], _, _, _, _, _, h, k => by
    obtain ⟨rfl, rfl⟩ := h
    exact k
  | d :: ds, _, _, _, _, _, h, k => by
    obtain ⟨v, r, g1, g2, rfl, rfl, e2, e3⟩ := h
    exact ⟨v, r ++ _, g1, g2 ++ _, rfl, by simp, e2, RepSs.app e3 k⟩
theorem RepSs.one {t : Sh} {d : D} {v : V} {f : List Addr} (h : RepS w F B H d t v f) : RepSs w F B H [d] t [v] f := ⟨v, [], f, [], rfl, by simp, h, rfl, rfl⟩
theorem RepSs.split {t : Sh} : ∀ {ds : List D} {us : List V} {fp : List Addr} (n : Nat), RepSs w F B H ds t us fp → ∃ f1 f2, fp = f1 ++ f2 ∧ RepSs w F B H (ds.take n) t (us.take n) f1 ∧ RepSs w F B H (ds.drop n) t (us.drop n) f2
  | ds, us, fp, 0, h => ⟨[], fp, rfl, ⟨rfl, rfl⟩, h⟩
  | [], _, _, n + 1, h => by
    obtain ⟨rfl, rfl⟩ := h
    exact ⟨[], [], rfl, ⟨rfl, rfl⟩, ⟨rfl, rfl⟩⟩
  | d :: ds, _, _, n + 1, h => by
    obtain ⟨v, r, g1, g2, rfl, rfl, e2, e3⟩ := h
    obtain ⟨f1, f2, rfl, q1, q2⟩ := RepSs.split n e3
    exact ⟨g1 ++ f1, f2, by simp, ⟨v, r.take n, g1, f1, rfl, rfl, e2, q1⟩, q2⟩
theorem RepSs.rev {t : Sh} : ∀ {ds : List D} {us : List V} {fp : List Addr}, RepSs w F B H ds t us fp → ∃ fq, fq.Perm fp ∧ RepSs w F B H ds.reverse t us.reverse fq
  | [], _, _, h => by
    obtain ⟨rfl, rfl⟩ := h
    exact ⟨[], List.Perm.refl _, rfl, rfl⟩
  | d :: ds, _, _, h => by
    obtain ⟨v, r, g1, g2, rfl, rfl, e2, e3⟩ := h
    obtain ⟨fq, q1, q2⟩ := RepSs.rev e3
    refine ⟨fq ++ g1, (List.perm_append_comm.trans (q1.append_left g1)), ?_⟩
    rw [List.reverse_cons, List.reverse_cons]
    exact q2.app (RepSs.one e2)
theorem mutKpG (m : Mu) (y : SD) : KpG (mutKp m y) := by
  obtain ⟨s, d⟩ := y
  cases m <;> cases s <;> first | exact kpK | exact kpS _
def tGE (w : Wd) (sg : Sig) (cl : Calls) (W : WX) (as : Es) : TA := fun σ H Q => ∃ kp, KpG kp ∧ tG w sg cl W kp as σ H Q
theorem pa_GE {args : List Expr} {as : Es} (h : ∀ kp, KpG kp → PA X args (tG w sg cl W kp as)) : PA X args (tGE w sg cl W as) := ⟨fun pos pins s σ H Q I ⟨kp, k, q⟩ => (h kp k).run pos pins s σ H Q I q⟩
/-- what a change of a list does -/
def MutL (w : Wd) (m : Mu) (R : V → List V → Hp → VK → Prop) : Prop := ∀ (t : Sh) (ds : List D) (xs : List SD) (r z : SD) (F B H : Hp) (a : Addr) (us vs : List V) (fr fpx : List Addr) (Q : VK), mutS m (.lst t, .lst ds) xs = some (r, z) → Ex F H → Ex B H →
  H a = some (.lst us) → RepSs w F B H ds t us fr → RepSu w F B H (xs.map (·.2)) (xs.map (·.1)) vs fpx →
  (∀ (t' : Sh) (ds' : List D) (us' : List V) (vr : V) (fr' fpr : List Addr), z = (.lst t', .lst ds') → RepSs w F B H ds' t' us' fr' → RepS w F B H r.2 r.1 vr fpr → (fr' ++ fpr).Sublist (fr ++ fpx) ∨ (fr' ++ fpr).Perm (fr ++ fpx) → Q vr (upd H a (.lst us'))) → R (.ref a) vs H Q
theorem mut_go (m : Mu) {p : Pl} {as : Es} {R : V → List V → Hp → VK → Prop} {Q : VK} (hm : MutL w m R) (wf : (!(effEs sg as).contains p.root) = true) (h : tE w sg cl W (.mut m p as) σ H Q) :
    tBM w.K "list" R (tPlF w sg.gd p) (tGE w sg cl W as) σ H Q := by
  have hr : p.root ∉ effEs sg as := fun z => by
    rw [List.contains_iff_mem.mpr z] at wf
    cases wf
  obtain ⟨env, F, B, fps, r, S, he, q⟩ := h
  obtain ⟨y, q1, q2⟩ := Option.bind_eq_some_iff.mp (show ((p.get sg.gd env).bind fun y => if contOk m y.2 = true then M.bind (evG sg cl (mutKp m y) as) (fun xs => fun env2 => (mutS m y xs).bind fun (r, z) => (p.up sg.gd env z).map fun z' => Out.ok r (env2.set p.root (some z'))) env else none) = some r from he)
  obtain ⟨hc, q2⟩ := ite_some q2
  obtain ⟨s, d⟩ := y
  refine ⟨env, F, B, fps, (s, d), S, q1, fun v hf => ?_⟩
  have hd : ∃ ds, d = .lst ds := by cases m <;> cases d <;> first | exact ⟨_, rfl⟩ | cases hc
  obtain ⟨ds, rfl⟩ := hd
  obtain ⟨a0, us0, rfl, l1, l2⟩ := v_lst S.fh S.bh (hf.mem.elim fun fp z => ⟨fp, z.1⟩)
  refine ⟨.inl ⟨rfl, us0, SqL.of l1⟩, mutKp m (s, .lst ds), mutKpG m _, ?_⟩
  rcases bind_ok q2 with ⟨xs, env1, h1, h2⟩ | ⟨c, fs, env1, h1, rfl⟩
  · refine ⟨env, F, B, fps, _, S, h1, fun vs H1 F1 fps1 fp S1 T1 R1 K1 Fr1 => ?_⟩
    obtain ⟨⟨r0, z0⟩, h3, h4⟩ := Option.bind_eq_some_iff.mp h2
    obtain ⟨z', h5, rfl⟩ := Option.map_eq_some_iff.mp h4
    have hs : ∃ t, s = .lst t := by cases m <;> cases s <;> first | exact ⟨_, rfl⟩ | cases h3
    obtain ⟨t, rfl⟩ := hs
    obtain ⟨a, us, fr, f1, f2, ea, e0, eH, eR, eU⟩ := foc_lst S hf hr T1
    cases ea
    refine hm t ds xs r0 z0 F1 B H1 a0 us vs fr fp Q h3 S1.fh S1.bh eH eR R1 fun t' ds' us' vr fr' fpr ez R' Rr hsub => ?_
    subst ez
    obtain ⟨v0, k1, k2⟩ := eU _ z' h5
    have ndAll : (fr ++ fp).Nodup := by
      have n := S1.nd p.root
      rw [e0] at n
      obtain ⟨_, n2, _⟩ := List.nodup_append.mp n
      obtain ⟨n4, _, _⟩ := List.nodup_append.mp n2
      refine List.nodup_append.mpr ⟨(List.nodup_cons.mp n4).2, K1.nd, fun b hb c hc e => ?_⟩
      subst e
      exact K1.ds b hc p.root (by rw [e0]; simp [hb])
    have nd' : (fr' ++ fpr).Nodup := by
      rcases hsub with z | z
      · exact ndAll.sublist z
      · exact z.nodup_iff.mpr ndAll
    have sub' : ∀ b ∈ fr' ++ fpr, b ∈ fr ++ fp := fun b hb => by
      rcases hsub with z | z
      · exact z.subset hb
      · exact z.mem_iff.mp hb
    obtain ⟨fps2, p1, p2, p3, p4, p5⟩ := put_lst T1 Fr1 S1 e0 eH K1 k1 k2 R' nd' sub' Rr
    exact q vr _ F1 fps2 p1 p2 ⟨fpr, p3, p4, p5⟩
  · exact ⟨env, F, B, fps, _, S, h1, fun cls dx H1 F1 fps1 S1 T1 x1 => q cls dx H1 F1 fps1 S1 (T1.weak fun j hj => .tail _ hj) x1⟩
theorem ml_append : MutL w .append rAppend := by
  intro t ds xs r z F B H a us vs fr fpx Q hs eh eb ha R Rx k
  rcases xs with _ | ⟨⟨s, d⟩, _ | ⟨_, _⟩⟩ <;> first | (cases hs; done) | skip
  obtain ⟨hc, hs⟩ := ite_some (show (if (eqSh s t && decide (ds.length < sizeLine)) = true then some (((Sh.frz, D.non), (Sh.lst t, D.lst (ds ++ [d]))) : SD × SD) else none) = some (r, z) from hs)
  obtain ⟨h1, h2⟩ := and2 hc
  have et := eqSh_ok _ _ h1
  subst et
  cases hs
  obtain ⟨v, rr, g1, g2, rfl, rfl, e2, rfl, rfl⟩ := Rx
  exact ⟨a, us, v, rfl, rfl, ha, by rw [RepSs.length R]; exact of_decide_eq_true h2, k s (ds ++ [d]) (us ++ [v]) .non (fr ++ g1) [] rfl (R.app (RepSs.one e2)) (RepS_frz.mpr ⟨rfl, rfl⟩) (.inl (by simp))⟩
abbrev rInsert : V → List V → Hp → VK → Prop := fun x vs H Q => ∃ (l : Addr) (xs : List V) (i : Int) (y : V), x = .ref l ∧ vs = [.int i, y] ∧ H l = some (.lst xs) ∧ xs.length < sizeLine ∧ 0 ≤ i ∧ i < 2 ^ 63 ∧ Q .non (upd H l (.lst (xs.take i.toNat ++ [y] ++ xs.drop i.toNat)))
theorem ml_insert : MutL w .insert rInsert := by
  intro t ds xs r z F B H a us vs fr fpx Q hs eh eb ha R Rx k
  rcases xs with _ | ⟨⟨s1, i⟩, _ | ⟨⟨s, d⟩, _ | ⟨_, _⟩⟩⟩ <;> first | (cases hs; done) | (cases i <;> cases hs; done) | skip
  cases i <;> first | (cases hs; done) | skip
  rename_i i
  obtain ⟨hc, hs⟩ := ite_some (show (if (eqSh s t && decide (ds.length < sizeLine) && decide (0 ≤ i) && decide (i < 2 ^ 63)) = true then some (((Sh.frz, D.non), (Sh.lst t, D.lst (ds.take i.toNat ++ d :: ds.drop i.toNat))) : SD × SD) else none) = some (r, z) from hs)
  obtain ⟨hc, h4⟩ := and2 hc
  obtain ⟨hc, h3⟩ := and2 hc
  obtain ⟨h1, h2⟩ := and2 hc
  have et := eqSh_ok _ _ h1
  subst et
  cases hs
  obtain ⟨vi, rr, g0, gx, rfl, rfl, e0, v, rr', g1, g2, rfl, rfl, e2, rfl, rfl⟩ := Rx
  have ei : vi = .int i := RepS.scalar (F' := F) rfl e0
  subst ei
  obtain ⟨f1, f2, rfl, q1, q2⟩ := R.split i.toNat
  refine ⟨a, us, i, v, rfl, rfl, ha, by rw [RepSs.length R]; exact of_decide_eq_true h2, of_decide_eq_true h3, of_decide_eq_true h4, k s _ _ .non (f1 ++ g1 ++ f2) [] rfl ?_ (RepS_frz.mpr ⟨rfl, rfl⟩) ?_⟩
  · have := (q1.app (RepSs.one e2)).app q2
    simpa using this
  · have e0' : g0 = [] := by cases s1 <;> first | exact (RepS_frz.mp e0).2 | exact (RepS_bor.mp e0).2 | exact False.elim e0
    subst e0'
    refine .inr ?_
    simp only [List.append_nil, List.nil_append, List.append_assoc]
    exact (List.perm_append_comm.append_left f1)
theorem ml_pop : MutL w .pop rPop := by
  intro t ds xs r z F B H a us vs fr fpx Q hs eh eb ha R Rx k
  rcases xs with _ | ⟨_, _⟩ <;> first | (cases hs; done) | skip
  have hs' : (match ds.getLast? with | some d => some (((t, d), (Sh.lst t, D.lst ds.dropLast)) : SD × SD) | none => none) = some (r, z) := hs
  split at hs'
  · rename_i d hd
    cases hs'
    obtain ⟨rfl, rfl⟩ := Rx
    have hn : ds ≠ [] := fun e => by rw [e] at hd; cases hd
    have e1 : ds = ds.dropLast ++ [d] := by
      rw [List.getLast?_eq_some_getLast hn] at hd
      cases hd
      exact (List.dropLast_concat_getLast hn).symm
    obtain ⟨f1, f2, rfl, q1, q2⟩ := R.split (ds.length - 1)
    have e2 : ds.drop (ds.length - 1) = [d] := by
      rw [e1]
      simp
    rw [e2] at q2
    obtain ⟨v, rr, g1, g2, e3, rfl, e4, rfl, rfl⟩ := q2
    have hl := RepSs.length R
    have e5 : us[us.length - 1]? = some v := by
      have := congrArg (fun l => l[0]?) e3
      simp only [List.getElem?_drop, List.getElem?_cons_zero] at this
      rw [hl]
      simpa using this
    refine ⟨a, us, v, rfl, rfl, ha, e5, k t ds.dropLast us.dropLast v f1 g1 rfl ?_ e4 (.inl (by simp))⟩
    rw [List.dropLast_eq_take, List.dropLast_eq_take, hl]
    exact q1
  · cases hs'
theorem ml_reverse : MutL w .reverse rReverse := by
  intro t ds xs r z F B H a us vs fr fpx Q hs eh eb ha R Rx k
  rcases xs with _ | ⟨_, _⟩ <;> first | (cases hs; done) | skip
  cases hs
  obtain ⟨rfl, rfl⟩ := Rx
  obtain ⟨fq, q1, q2⟩ := R.rev
  exact ⟨a, us, rfl, rfl, ha, k t _ _ .non fq [] rfl q2 (RepS_frz.mpr ⟨rfl, rfl⟩) (.inr (by simpa using q1))⟩
theorem ml_clear : MutL w .clear rClear := by
  intro t ds xs r z F B H a us vs fr fpx Q hs eh eb ha R Rx k
  rcases xs with _ | ⟨_, _⟩ <;> first | (cases hs; done) | skip
  cases hs
  obtain ⟨rfl, rfl⟩ := Rx
  exact ⟨a, us, rfl, rfl, ha, k t [] [] .non [] [] rfl ⟨rfl, rfl⟩ (RepS_frz.mpr ⟨rfl, rfl⟩) (.inl (List.nil_sublist _))⟩
theorem ml_extend : MutL w .extend rExtend := by
  intro t ds xs r z F B H a us vs fr fpx Q hs eh eb ha R Rx k
  rcases xs with _ | ⟨⟨s, d⟩, _ | ⟨_, _⟩⟩ <;> first | (cases hs; done) | skip
  obtain ⟨ht, hs⟩ := ite_some (show (if t.isF = true then _ else none) = some (r, z) from hs)
  have et := isF_eq ht
  subst et
  obtain ⟨es, q1, hs⟩ := Option.bind_eq_some_iff.mp hs
  cases d <;> first | (cases hs; done) | skip
  rename_i ds2
  obtain ⟨hz, hs⟩ := iteP_some (show (if ds.length + es.length ≤ sizeLine then some (((Sh.frz, D.non), (Sh.lst .frz, D.lst (ds ++ es))) : SD × SD) else none) = some (r, z) from hs)
  cases hs
  obtain ⟨v, rr, g1, g2, rfl, rfl, e2, rfl, rfl⟩ := Rx
  obtain ⟨b, ws, rfl, r1, m1, rfl⟩ := kids_lst eh eb ⟨_, e2⟩ q1
  refine ⟨a, b, us, ws, rfl, rfl, ha, m1, by rw [RepSs.length R, r1.length]; exact hz, k .frz _ _ .non (fr ++ []) [] rfl (R.app (reps_ss _ _ r1)) (RepS_frz.mpr ⟨rfl, rfl⟩) (.inl (by simp))⟩
end
end DI
/-! DI8a: targets; simple statements. -/
namespace DI
open PySem L2
variable {F F' F1 F2 B B' H H' H1 H2 : Hp} {σ σ1 : L2.St} {env env1 env2 : Env} {fps fps' fps1 fps2 : Nat → List Addr}
section
variable {X : Cx} {g : Gam} {w : Wd} {sg : Sig} {cl : Calls} {W : WX}
/-- a name takes a value -/
theorem Sta.store {i : Nat} {y : SD} {v : V} {f : List Addr} (S : Sta w F B H σ env fps) (hio : ∀ v, (i, v) ∉ w.io) (r : RepS w F B H y.2 y.1 v f) (k : Kp F B H fps f) : Sta w F B H (σ.set i (some v)) (env.set i (some y)) (stp fps i f) := by
  refine ⟨S.fh, S.bh, by rw [List.length_set, List.length_set]; exact S.ln, fun j s d e => ?_, fun j a ha => ?_, fun j a ha => ?_, fun j => ?_, fun j l a h1 h2 => ?_, fun j v hv => ?_⟩
  · by_cases hj : j = i
    · subst hj
      rw [List.getElem?_set] at e ⊢
      simp only [if_true] at e ⊢
      split at e
      · rename_i hlt
        cases e
        refine ⟨v, ?_, by rw [stp_same]; exact r⟩
        rw [if_pos (by rw [← S.ln]; exact hlt)]
      · cases e
    · rw [List.getElem?_set_ne (fun q => hj q.symm)] at e ⊢
      rw [stp_ne hj]
      exact S.sl j s d e
  rotate_right
  · rw [List.getElem?_set_ne (fun q => by subst q; exact hio v hv)]
    exact S.io j v hv
  all_goals by_cases hj : j = i
  · subst hj
    rw [stp_same] at ha
    exact k.nf a ha
  · rw [stp_ne hj] at ha
    exact S.nf j a ha
  · subst hj
    rw [stp_same] at ha
    exact k.hd a ha
  · rw [stp_ne hj] at ha
    exact S.hd j a ha
  · subst hj
    rw [stp_same]
    exact k.nd
  · rw [stp_ne hj]
    exact S.nd j
  · subst hj
    rw [stp_same] at h1
    by_cases hl : l = j
    · exact hl.symm
    · rw [stp_ne hl] at h2
      exact absurd h2 (k.ds a h1 l)
  · rw [stp_ne hj] at h1
    by_cases hl : l = i
    · subst hl
      rw [stp_same] at h2
      exact absurd h1 (k.ds a h2 j)
    · rw [stp_ne hl] at h2
      exact S.sp j l a h1 h2
/-- what a target may do to the names -/
structure TgS (sl : List Nat) (fps : Nat → List Addr) (fp : List Addr) (fps' : Nat → List Addr) : Prop where
  sm : ∀ j, j ∉ sl → fps' j = fps j
  nw : ∀ j ∈ sl, ∀ a ∈ fps' j, a ∈ fp ∨ ∃ k ∈ sl, a ∈ fps k
structure SgS (sl : List Nat) (σ σ' : L2.St) : Prop where
  ln : σ'.length = σ.length
  sm : ∀ j, j ∉ sl → σ'[j]? = σ[j]?
def tT (w : Wd) (tg : Tg) : TG := fun v σ H Q => ∃ env F B fps x fp env', Sta w F B H σ env fps ∧ RepS w F B H x.2 x.1 v fp ∧ Kp F B H fps fp ∧ asgT tg x env = some (.ok () env') ∧
  ∀ σ' fps', Sta w F B H σ' env' fps' → TgS tg.slots fps fp fps' → SgS tg.slots σ σ' → Q σ' H
def tTs (w : Wd) (ts : Tgs) : TGs := fun vs σ H Q => ∃ env F B fps ss ds fp env', Sta w F B H σ env fps ∧ RepSu w F B H ds ss vs fp ∧ Kp F B H fps fp ∧ asgT.asgTs ts ss ds env = some (.ok () env') ∧
  ∀ σ' fps', Sta w F B H σ' env' fps' → TgS (Tg.slots.slotsT ts) fps fp fps' → SgS (Tg.slots.slotsT ts) σ σ' → Q σ' H
theorem reps_su {s : Sh} (hs : s = .frz ∨ s = .bor) : ∀ (ds : List D) (vs : List V), (s = .frz → Reps w F ds vs) → (s = .bor → Reps w B ds vs) → RepSu w F B H ds (List.replicate ds.length s) vs []
  | [], _, h1, h2 => by
    rcases hs with rfl | rfl
    · exact ⟨h1 rfl, rfl⟩
    · exact ⟨h2 rfl, rfl⟩
  | d :: ds, _, h1, h2 => by
    rw [List.length_cons, List.replicate_succ]
    rcases hs with rfl | rfl
    · obtain ⟨v, r, e1, e2, e3⟩ := h1 rfl
      exact ⟨v, r, [], [], e1, rfl, RepS_frz.mpr ⟨e2, rfl⟩, reps_su (.inl rfl) ds r (fun _ => e3) (fun z => by cases z)⟩
    · obtain ⟨v, r, e1, e2, e3⟩ := h2 rfl
      exact ⟨v, r, [], [], e1, rfl, RepS_bor.mpr ⟨e2, rfl⟩, reps_su (.inr rfl) ds r (fun z => by cases z) (fun _ => e3)⟩
theorem adj_ok {s : Sh} {d : D} {v : V} {fp : List Addr} (r : RepS w F B H d s v fp) : RepS w F B H d (if d.scal then .frz else s) v fp := by
  by_cases h : d.scal = true
  · rw [if_pos h]
    have e : fp = [] := by
      cases s with
      | frz => exact (RepS_frz.mp r).2
      | bor => exact (RepS_bor.mp r).2
      | lst s => obtain ⟨_, rfl⟩ := RepS_lst r; cases h
      | dic s => rcases RepS_dic r with ⟨_, rfl⟩ | ⟨_, rfl⟩ <;> cases h
      | tup s => obtain ⟨_, rfl⟩ := RepS_tup r; cases h
      | obj s => obtain ⟨_, _, rfl⟩ := RepS_obj r; cases h
    exact RepS_frz.mpr ⟨RepS.scalar h r, e⟩
  · rw [if_neg h]
    exact r
theorem Kp.left {f1 f2 : List Addr} (k : Kp F B H fps (f1 ++ f2)) : Kp F B H fps f1 :=
  ⟨(List.nodup_append.mp k.nd).1, fun a ha => k.nf a (List.mem_append_left _ ha), fun a ha => k.hd a (List.mem_append_left _ ha), fun a ha => k.ds a (List.mem_append_left _ ha)⟩
def Tgs.length : Tgs → Nat
  | .nil => 0
  | .cons _ ts => ts.length + 1
theorem asg_len : ∀ {ts : Tgs} {ss : List Sh} {ds : List D} {env env' : Env}, asgT.asgTs ts ss ds env = some (.ok () env') → ds.length = ts.length
  | .nil, ss, ds, _, _, h => by
    cases ss <;> cases ds <;> first | rfl | cases h
  | .cons t ts, ss, ds, _, _, h => by
    cases ss <;> cases ds <;> first | (cases h; done) | skip
    rename_i s0 ss d ds
    rcases bind_ok (show M.bind (asgT t (if d.scal then .frz else s0, d)) (fun _ => asgT.asgTs ts ss ds) _ = some _ from h) with ⟨_, env1, a1, a2⟩ | ⟨_, _, _, _, z⟩
    · rw [List.length_cons, asg_len a2]
      rfl
    · cases z
mutual
theorem pg_T (C : Ctx X g w sg W) : ∀ {tg : Tg} {e : Expr}, matchTg g tg e = true → PG X e (tT w tg)
  | .nm i, .Name x pos, h => by
    obtain ⟨h1, h2, h3, h4⟩ := loc_ok C (show g.loc i x = true from h)
    have pn := pg_name (pos := pos) (by rw [C.N]; exact C.nd) h1 h2 h3
    refine ⟨fun pins s σ H v u Q I r hw => pn.run pins s σ H v u Q I r ?_⟩
    obtain ⟨env, F, B, fps, x, fp, env', S, rr, k, ha, q⟩ := hw
    cases ha
    refine q _ (stp fps i fp) (S.store h4 rr k) ⟨fun j hj => stp_ne fun z => hj (by rw [z]; exact List.mem_singleton.mpr rfl), fun j hj a ha => ?_⟩ ⟨List.length_set .., fun j hj => List.getElem?_set_ne fun z => hj (by rw [z]; exact List.mem_singleton.mpr rfl)⟩
    have ej := List.mem_singleton.mp hj
    subst ej
    rw [stp_same] at ha
    exact .inl ha
  | .tup ts, .Tuple es k pos, h => by
    have h' : matchTg.matchTgs g ts es = true := h
    obtain ⟨hp, hn, hst⟩ := pg_Ts C h'
    have pn := pg_tup (k := k) (pos := pos) C.calm hp rfl hst
    refine ⟨fun pins s σ H v u Q I r hw => pn.run pins s σ H v u Q I r ?_⟩
    obtain ⟨env, F, B, fps, ⟨s0, d⟩, fp, env', S, rr, kk, ha, q⟩ := hw
    rw [C.K]
    have fin : ∀ {a : Addr} {ds : List D} {ss : List Sh} {vs : List V}, v = .ref a → H a = some (.tup vs) → RepSu w F B H ds ss vs fp → asgT.asgTs ts ss ds env = some (.ok () env') → gTup w.K (assignEach es X.env).length (tTs w ts) v σ H Q :=
      fun {a ds ss vs} e1 e2 e3 e4 => ⟨a, vs, e1, SqT.of e2, by
        rw [RepSu.length e3, asg_len e4, hn], env, F, B, fps, ss, ds, fp, env', S, e3, kk, e4, q⟩
    cases d <;> first | (cases s0 <;> cases ha; done) | skip
    rename_i ds
    cases s0 <;> first | (cases ha; done) | skip
    · obtain ⟨a, vs, e1, e2, e3⟩ := (RepS_frz.mp rr).1
      have ef := (RepS_frz.mp rr).2
      subst ef
      exact fin e1 (S.fh _ _ e2) (reps_su (.inl rfl) ds vs (fun _ => e3) (fun z => by cases z)) ha
    · obtain ⟨a, vs, e1, e2, e3⟩ := (RepS_bor.mp rr).1
      have ef := (RepS_bor.mp rr).2
      subst ef
      exact fin e1 (S.bh _ _ e2) (reps_su (.inr rfl) ds vs (fun z => by cases z) (fun _ => e3)) ha
    · obtain ⟨a, vs, e1, e2, e3⟩ := rr
      exact fin e1 e2 e3 ha
theorem pg_Ts (C : Ctx X g w sg W) : ∀ {ts : Tgs} {es : List Expr}, matchTg.matchTgs g ts es = true → PGs X es (tTs w ts) ∧ (assignEach es X.env).length = ts.length ∧ (assignEach es X.env).findIdx? (·.1) = none
  | .nil, [], h => by
    refine ⟨⟨fun pins s σ H vs us Q I r hw => pgs_nil.run pins s σ H vs us Q I r ?_⟩, rfl, rfl⟩
    obtain ⟨env, F, B, fps, ss, ds, fp, env', S, rr, kk, ha, q⟩ := hw
    cases ss <;> cases ds <;> first | (cases ha; done) | skip
    cases ha
    exact ⟨rr.1, q σ fps S ⟨fun _ _ => rfl, fun j hj => by cases hj⟩ ⟨rfl, fun _ _ => rfl⟩⟩
  | .cons t ts, e :: es, h => by
    obtain ⟨h1, h2⟩ := and2 (show (matchTg g t e && matchTg.matchTgs g ts es) = true from h)
    have p1 := pg_T C h1
    obtain ⟨p2, p3, p4⟩ := pg_Ts C h2
    have hs : assignEach (e :: es) X.env = (false, assign e X.env) :: assignEach es X.env := by
      cases e <;> first | rfl | (cases t <;> cases h1)
    refine ⟨⟨fun pins s σ H vs us Q I r hw => (pgs_cons p1 p2 (by rw [hs]; rfl)).run pins s σ H vs us Q I r ?_⟩, by rw [hs, List.length_cons, p3]; rfl, by rw [hs, List.findIdx?_cons, p4]; rfl⟩
    obtain ⟨env, F, B, fps, ss, ds, fp, env', S, rr, kk, ha, q⟩ := hw
    cases ss <;> cases ds <;> first | (cases ha; done) | skip
    rename_i s0 ss d ds
    obtain ⟨v, vr, f1, f2, rfl, rfl, r1, r2⟩ := rr
    rcases bind_ok (show M.bind (asgT t (if d.scal then .frz else s0, d)) (fun _ => asgT.asgTs ts ss ds) env = some (.ok () env') from ha) with ⟨_, env1, a1, a2⟩ | ⟨_, _, _, _, z⟩
    · refine ⟨v, vr, rfl, env, F, B, fps, (if d.scal then .frz else s0, d), f1, env1, S, adj_ok r1, kk.left, a1, fun σ1 fps1 S1 T1 G1 => ?_⟩
      have k2 : Kp F B H fps1 f2 := by
        obtain ⟨_, n2, n3⟩ := List.nodup_append.mp kk.nd
        refine ⟨n2, fun a ha => kk.nf a (List.mem_append_right _ ha), fun a ha => kk.hd a (List.mem_append_right _ ha), fun a ha j hj => ?_⟩
        by_cases hm : j ∈ t.slots
        · rcases T1.nw j hm a hj with z | ⟨k, _, z⟩
          · exact n3 a z a ha rfl
          · exact kk.ds a (List.mem_append_right _ ha) k z
        · rw [T1.sm j hm] at hj
          exact kk.ds a (List.mem_append_right _ ha) j hj
      refine ⟨env1, F, B, fps1, ss, ds, f2, env', S1, r2, k2, a2, fun σ2 fps2 S2 T2 G2 => q σ2 fps2 S2 ⟨fun j hj => ?_, fun j hj a ha => ?_⟩ ⟨G2.ln.trans G1.ln, fun j hj => (G2.sm j fun z => hj (List.mem_append_right _ z)).trans (G1.sm j fun z => hj (List.mem_append_left _ z))⟩⟩
      · have n1 : j ∉ t.slots := fun z => hj (List.mem_append_left _ z)
        have n2 : j ∉ Tg.slots.slotsT ts := fun z => hj (List.mem_append_right _ z)
        rw [T2.sm j n2, T1.sm j n1]
      · have one : ∀ k ∈ t.slots, a ∈ fps1 k → a ∈ f1 ++ f2 ∨ ∃ k ∈ t.slots ++ Tg.slots.slotsT ts, a ∈ fps k := fun k hm hk => by
          rcases T1.nw k hm a hk with z | ⟨l, hl, z⟩
          · exact .inl (List.mem_append_left _ z)
          · exact .inr ⟨l, List.mem_append_left _ hl, z⟩
        by_cases hm : j ∈ Tg.slots.slotsT ts
        · rcases T2.nw j hm a ha with z | ⟨k, hk, z⟩
          · exact .inl (List.mem_append_right _ z)
          · by_cases hk1 : k ∈ t.slots
            · exact one k hk1 z
            · rw [T1.sm k hk1] at z
              exact .inr ⟨k, List.mem_append_right _ hk, z⟩
        · rw [T2.sm j hm] at ha
          exact one j ((List.mem_append.mp hj).resolve_right hm) ha
    · cases z
end
end
end DI
/-! DI8b: statements. -/
namespace DI
open PySem L2
variable {F F' F1 F2 B B' H H' H1 H2 : Hp} {σ σ1 : L2.St} {env env1 env2 : Env} {fps fps' fps1 fps2 : Nat → List Addr}
section
variable {X : Cx} {g : Gam} {w : Wd} {sg : Sig} {cl : Calls} {W : WX}
/-- what is asked behind a statement -/
def FinS (w : Wd) (W : WX) (ef : List Nat) (F B H : Hp) (fps : Nat → List Addr) (D : Ends) (r : Out Fl) : Prop := match r with
  | .ok .nx env' => ∀ σ' H' F' fps', Sta w F' B H' σ' env' fps' → Stp ef F H fps F' H' fps' → D.nx σ' H'
  | .ok .bk env' => ∀ σ' H' F' fps', Sta w F' B H' σ' env' fps' → Stp ef F H fps F' H' fps' → D.bk σ' H'
  | .ok .ct env' => ∀ σ' H' F' fps', Sta w F' B H' σ' env' fps' → Stp ef F H fps F' H' fps' → D.ct σ' H'
  | .ok (.rt x) env' => ∀ v σ' H' F' fps', Sta w F' B H' σ' env' fps' → Stp ef F H fps F' H' fps' → VO w none ef H fps F' B H' fps' x v → D.rt v H'
  | .ex c fs env' => ∀ cls dx σ' H' F' fps', Sta w F' B H' σ' env' fps' → Stp ef F H fps F' H' fps' → ExR w c fs cls dx F' → W cls dx σ' H'
/-- the rest of a reading, from a later state -/
theorem FinS.on {ef eg : List Nat} {D : Ends} {r : Out Fl} (T : Stp ef F H fps F1 H1 fps1) (hs : ∀ i ∈ eg, i ∈ ef) (q : FinS w W ef F B H fps D r) : FinS w W eg F1 B H1 fps1 D r := by
  cases r with
  | ok f env' =>
    cases f with
    | nx => exact fun σ' H' F' fps' S' T' => q σ' H' F' fps' S' (T.trans (T'.weak hs))
    | bk => exact fun σ' H' F' fps' S' T' => q σ' H' F' fps' S' (T.trans (T'.weak hs))
    | ct => exact fun σ' H' F' fps' S' T' => q σ' H' F' fps' S' (T.trans (T'.weak hs))
    | rt x => exact fun v σ' H' F' fps' S' T' V' => q v σ' H' F' fps' S' (T.trans (T'.weak hs)) (V'.elim fun fp z => ⟨fp, z.1, z.2.1, Fr.back T (z.2.2.weak hs)⟩)
  | ex c fs env' => exact fun cls dx σ' H' F' fps' S' T' x' => q cls dx σ' H' F' fps' S' (T.trans (T'.weak hs)) x'
def tS (w : Wd) (sg : Sig) (cl : Calls) (W : WX) (s : S) : TS := fun D σ H => ∃ env F B fps r, Sta w F B H σ env fps ∧ st sg cl s env = some r ∧ FinS w W (effS sg s) F B H fps D r
def tSs (w : Wd) (sg : Sig) (cl : Calls) (W : WX) (s : Ss) : TS := fun D σ H => ∃ env F B fps r, Sta w F B H σ env fps ∧ sts sg cl s env = some r ∧ FinS w W (effSs sg s) F B H fps D r
/-- an expression first -/
theorem ev_first {e : E} {ef : List Nat} {k : SD → M Fl} {r : Out Fl} {D : Ends} {P : V → Hp → Prop} (S0 : Sta w F B H σ env fps) (sub : ∀ i ∈ effE sg e, i ∈ ef) (h : M.bind (ev sg cl e) k env = some r) (q : FinS w W ef F B H fps D r)
    (hP : ∀ x v env1 H1 F1 fps1, Sta w F1 B H1 σ env1 fps1 → Stp ef F H fps F1 H1 fps1 → VO w e.root ef H fps F1 B H1 fps1 x v → k x env1 = some r → P v H1) : tE w sg cl W e σ H P := by
  rcases bind_ok h with ⟨x, env1, h1, h2⟩ | ⟨c, fs, env1, h1, rfl⟩
  · refine ⟨env, F, B, fps, _, S0, h1, fun v H1 F1 fps1 S1 T1 V1 => hP x v env1 H1 F1 fps1 S1 (T1.weak sub) ?_ h2⟩
    obtain ⟨fp, a, b⟩ := V1
    refine ⟨fp, a, ?_⟩
    revert b
    cases e.root with
    | some i => exact id
    | none => exact fun ⟨b1, b2⟩ => ⟨b1, b2.weak sub⟩
  · exact ⟨env, F, B, fps, _, S0, h1, fun cls dx H1 F1 fps1 S1 T1 x1 => q cls dx σ H1 F1 fps1 S1 (T1.weak sub) x1⟩
theorem opt_of {α : Type} {o : Option α} {k : α → M Fl} {r : Out Fl} (h : M.bind (M.opt o) k env = some r) : ∃ a, o = some a ∧ k a env = some r := by
  rcases bind_ok h with ⟨a, e, h1, h2⟩ | ⟨_, _, _, h1, _⟩
  · obtain ⟨b, hb, e'⟩ := opt_ok h1
    cases e'
    exact ⟨_, hb, h2⟩
  · obtain ⟨_, _, z⟩ := opt_ok h1
    cases z
theorem swaps_at {e t : Expr} (h : isName t = false) (l : Nat) (en : PySem.Env) : swapsWith e (some t) l en = pure false := by
  cases t <;> first | (cases h; done) | (cases e <;> rfl)
theorem swaps_no {e : Expr} (h : noComp e = true) (t : Option Expr) (l : Nat) (en : PySem.Env) : swapsWith e t l en = pure false := by
  cases e <;> first | rfl | cases h
def bothTup : Expr → Expr → Bool
  | .Tuple .., .Tuple .. => true
  | .List .., .Tuple .. => true
  | _, _ => false
theorem stores_no {t e : Expr} (h : bothTup t e = false) (en : PySem.Env) : swappedStores [t] e en = pure none := by
  cases t <;> first | rfl | (cases e <;> first | rfl | cases h)
theorem s_exp {e : E} {x : Expr} {pos : Pos} (hn : noComp x = true) (he : PE X x (tE w sg cl W e)) : PS X (.Expr x pos) (tS w sg cl W (.exp e)) :=
  PS.imp (ps_expr he (swaps_no hn _ _ _)) fun D σ H ⟨env, F, B, fps, r, S0, hs, q⟩ =>
    ev_first S0 (fun _ z => z) hs q fun x v env1 H1 F1 fps1 S1 T1 V1 h => by
      cases pure_ok h
      exact q σ H1 F1 fps1 S1 T1
theorem s_ret {e : E} {x : Expr} {pos : Pos} (he : PE X x (tE w sg cl W e)) : PS X (.Return (some x) pos) (tS w sg cl W (.ret e)) :=
  PS.imp (ps_ret he) fun D σ H ⟨env, F, B, fps, r, S0, hs, q⟩ =>
    ev_first S0 (fun _ z => z) hs q fun x v env1 H1 F1 fps1 S1 T1 V1 h => by
      obtain ⟨y, hy, h⟩ := opt_of h
      cases pure_ok h
      obtain ⟨F2, f1, S2, T2, R2, K2, Fr2⟩ := keep_ok kpT hy S1 T1 V1
      exact q v σ H1 F2 fps1 S2 T2 ⟨f1, R2, K2, Fr2⟩
theorem s_ret0 {pos : Pos} : PS X (.Return none pos) (tS w sg cl W .ret0) :=
  PS.imp ps_retN fun D σ H ⟨env, F, B, fps, r, S0, hs, q⟩ => by
    cases pure_ok hs
    exact q .non σ H F fps S0 (Stp.refl S0.fh) ⟨[], RepS_frz.mpr ⟨rfl, rfl⟩, Kp.nil, Fr.nil⟩
theorem s_pass {pos : Pos} : PS X (.Pass pos) (tS w sg cl W .pass) :=
  PS.imp ps_pass fun D σ H ⟨env, F, B, fps, r, S0, hs, q⟩ => by
    cases pure_ok hs
    exact q σ H F fps S0 (Stp.refl S0.fh)
theorem s_brk {pos : Pos} : PS X (.Break pos) (tS w sg cl W .brk) :=
  PS.imp ps_break fun D σ H ⟨env, F, B, fps, r, S0, hs, q⟩ => by
    cases pure_ok hs
    exact q σ H F fps S0 (Stp.refl S0.fh)
theorem s_cnt {pos : Pos} : PS X (.Continue pos) (tS w sg cl W .cnt) :=
  PS.imp ps_continue fun D σ H ⟨env, F, B, fps, r, S0, hs, q⟩ => by
    cases pure_ok hs
    exact q σ H F fps S0 (Stp.refl S0.fh)
theorem Stp.tgt {ef sl : List Nat} {f1 : List Addr} (T : Stp ef F H fps F1 H1 fps1) (t : TgS sl fps1 f1 fps') (hs : ∀ i ∈ sl, i ∈ ef) (f : Fr ef H fps f1) : Stp ef F H fps F1 H1 fps' := by
  refine ⟨T.ff, T.fh, T.fn, T.fr, T.al, fun i hi => (t.sm i fun z => hi (hs i z)).trans (T.sm i hi), fun i hi a ha => ?_⟩
  by_cases hm : i ∈ sl
  · rcases t.nw i hm a ha with z | ⟨k, hk, z⟩
    · exact f a z
    · exact T.nw k (hs k hk) a z
  · rw [t.sm i hm] at ha
    exact T.nw i hi a ha
mutual
theorem asgT_noex : ∀ (tg : Tg) (x : SD) (env e : Env) (c : Nat) (fs : List D), asgT tg x env ≠ some (.ex c fs e)
  | .nm i, x, env, e, c, fs, h => by cases h
  | .tup ts, (s, d), env, e, c, fs, h => by
    cases d <;> first | (cases s <;> cases h; done) | skip
    cases s <;> first | (cases h; done) | skip
    all_goals exact asgTs_noex ts _ _ env e c fs h
theorem asgTs_noex : ∀ (ts : Tgs) (ss : List Sh) (ds : List D) (env e : Env) (c : Nat) (fs : List D), asgT.asgTs ts ss ds env ≠ some (.ex c fs e)
  | .nil, ss, ds, env, e, c, fs, h => by
    cases ss <;> cases ds <;> cases h
  | .cons t ts, ss, ds, env, e, c, fs, h => by
    cases ss <;> cases ds <;> first | (cases h; done) | skip
    rename_i s0 ss d ds
    rcases bind_ok (show M.bind (asgT t (if d.scal then .frz else s0, d)) (fun _ => asgT.asgTs ts ss ds) env = some (.ex c fs e) from h) with ⟨_, env1, a1, a2⟩ | ⟨_, _, _, a1, z⟩
    · exact asgTs_noex ts ss ds env1 e c fs a2
    · exact asgT_noex t _ _ _ _ _ a1
end
theorem s_asg (C : Ctx X g w sg W) {tg : Tg} {e : E} {t x : Expr} {pos : Pos} (hn : swapsWith x (some t) pos.line X.env = pure false) (hb : swappedStores [t] x X.env = pure none) (ht : matchTg g tg t = true) (he : PE X x (tE w sg cl W e)) : PS X (.Assign [t] x pos) (tS w sg cl W (.asg tg e)) := by
  have h1 : (assignEach [t] X.env).map (·.2) = [assign t X.env] := by
    cases t <;> first | rfl | (cases tg <;> cases ht)
  refine PS.imp (ps_asg he (pg_T C ht) hn hb h1) fun D σ H ⟨env, F, B, fps, r, S0, hs, q⟩ => ?_
  refine ev_first (ef := effS sg (.asg tg e)) S0 mem_l hs q fun x v env1 H1 F1 fps1 S1 T1 V1 h => ?_
  obtain ⟨y, hy, h⟩ := opt_of h
  obtain ⟨F2, f1, S2, T2, R2, K2, Fr2⟩ := keep_ok kpK hy S1 T1 V1
  rcases bind_ok h with ⟨_, env2, h3, h4⟩ | ⟨_, _, _, h3, _⟩
  · cases pure_ok h4
    refine ⟨env1, F2, B, fps1, y, f1, env2, S2, R2, K2, h3, fun σ' fps' S' T' _ => q σ' H1 F2 fps' S' (T2.tgt T' mem_r Fr2)⟩
  · exact (asgT_noex _ _ _ _ _ _ h3).elim
theorem s_ife {c : E} {a b : Ss} {x : Expr} {y z : List Stmt} {pos : Pos} (hc : PT X x (tB (tE w sg cl W c))) (ha : PSs X y (tSs w sg cl W a)) (hb : PSs X z (tSs w sg cl W b)) : PS X (.If x y z pos) (tS w sg cl W (.ife c a b)) := by
  refine PS.imp (ps_if hc ha hb) fun D σ H ⟨env, F, B, fps, r, S0, hs, q⟩ => ?_
  refine ev_first (ef := effS sg (.ife c a b)) S0 mem_l hs q fun x v env1 H1 F1 fps1 S1 T1 V1 h => ?_
  obtain ⟨k, hk, h⟩ := opt_of h
  refine ⟨k, truth_ok hk (V1.elim fun fp z => ⟨fp, z.1⟩), ?_⟩
  cases k with
  | true => exact ⟨env1, F1, B, fps1, r, S1, h, q.on T1 fun i hi => mem_r i (mem_l i hi)⟩
  | false => exact ⟨env1, F1, B, fps1, r, S1, h, q.on T1 fun i hi => mem_r i (mem_r i hi)⟩
theorem ss_nil : PSs X [] (tSs w sg cl W .nil) :=
  PSs.imp pss_nil fun D σ H ⟨env, F, B, fps, r, S0, hs, q⟩ => by
    cases pure_ok hs
    exact q σ H F fps S0 (Stp.refl S0.fh)
theorem ss_cons {s : S} {ss : Ss} {x : Stmt} {xs : List Stmt} (h1 : PS X x (tS w sg cl W s)) (h2 : PSs X xs (tSs w sg cl W ss)) : PSs X (x :: xs) (tSs w sg cl W (.cons s ss)) := by
  refine PSs.imp (pss_cons h1 h2) fun D σ H ⟨env, F, B, fps, r, S0, hs, q⟩ => ?_
  have hs' : M.bind (st sg cl s) (fun f => match f with | .nx => sts sg cl ss | .bk => M.pure .bk | .ct => M.pure .ct | .rt r => M.pure (.rt r)) env = some r := hs
  rcases bind_ok hs' with ⟨f, env1, h1, h2⟩ | ⟨c, fs, env1, h1, rfl⟩
  · refine ⟨env, F, B, fps, _, S0, h1, ?_⟩
    cases f with
    | nx => exact fun σ' H' F' fps' S' T' => ⟨env1, F', B, fps', r, S', h2, q.on (T'.weak mem_l) mem_r⟩
    | bk => cases pure_ok h2; exact fun σ' H' F' fps' S' T' => q σ' H' F' fps' S' (T'.weak mem_l)
    | ct => cases pure_ok h2; exact fun σ' H' F' fps' S' T' => q σ' H' F' fps' S' (T'.weak mem_l)
    | rt x => cases pure_ok h2; exact fun v σ' H' F' fps' S' T' V' => q v σ' H' F' fps' S' (T'.weak mem_l) (V'.elim fun fp z => ⟨fp, z.1, z.2.1, z.2.2.weak mem_l⟩)
  · exact ⟨env, F, B, fps, _, S0, h1, fun cls dx σ' H' F' fps' S' T' x' => q cls dx σ' H' F' fps' S' (T'.weak mem_l) x'⟩
end
end DI
/-! DI8c: what a loop walks. -/
namespace DI
open PySem L2
variable {F F' F1 F2 B B' H H' H1 H2 : Hp} {σ σ1 : L2.St} {env env1 env2 : Env} {fps fps' fps1 fps2 : Nat → List Addr}
section
variable {X : Cx} {g : Gam} {w : Wd} {sg : Sig} {cl : Calls} {W : WX}
abbrev IT := L2.It
/-- the walk J gives the things xs -/
def LoopOk (w : Wd) (J : L2.It) (xs : List SD) (F B H : Hp) : Prop := (∀ i, i < xs.length → J.go i H) ∧ (∀ i, xs.length ≤ i → J.stop i H) ∧
  ∀ i x H', i < xs.length → J.yld i H x H' → ∃ y, xs[i]? = some y ∧ Ex H H' ∧ (Ex F H → RepS w F B H' y.2 y.1 x [])
/-- .. for ever, while the objects at as stay -/
def LoopAt (w : Wd) (J : L2.It) (xs : List SD) (as : List Addr) (F B H : Hp) : Prop := ∀ F' H', Ex F F' → Ex F' H' → Ex B H' → TK H H' → KO H H' as → LoopOk w J xs F' B H'
theorem LoopAt.step {J : L2.It} {xs : List SD} {as : List Addr} (h : LoopAt w J xs as F B H) (ff : Ex F F') (tk : TK H H') (ko : KO H H' as) : LoopAt w J xs as F' B H' :=
  fun F2 H2 e1 e2 e3 e4 e5 => h F2 H2 (ex_trans ff e1) e2 e3 (fun a xs z => e4 a xs (tk a xs z)) fun a o ha z => e5 a o ha (ko a o ha z)
def tI (w : Wd) (sg : Sig) (cl : Calls) (W : WX) (it : It) : TI := fun σ H R => ∃ env F B fps r, Sta w F B H σ env fps ∧ its sg cl it env = some r ∧ match r with
  | .ok xs env' => ∀ J H' F' fps' as, Sta w F' B H' σ env' fps' → Stp (effI sg it) F H fps F' H' fps' → LoopAt w J xs as F' B H' → (∀ a ∈ as, ∃ i ∈ it.roots, a ∈ fps' i) → R J H'
  | .ex c fs env' => ∀ cls dx H' F' fps', Sta w F' B H' σ env' fps' → Stp (effI sg it) F H fps F' H' fps' → ExR w c fs cls dx F' → W cls dx σ H'
/-! ### lists, tuples, texts -/
theorem loop_list {a : Addr} {us : List V} {xs : List SD} {as : List Addr} (ha : ∀ H', Ex F H' → Ex B H' → KO H H' as → H' a = some (.lst us)) (hx : ∀ F', Ex F F' → ∀ H', ∀ (i : Nat) (y : SD), xs[i]? = some y → ∃ u, us[i]? = some u ∧ RepS w F' B H' y.2 y.1 u []) (hl : xs.length = us.length) : LoopAt w (Itl w.K a) xs as F B H := by
  intro F' H' ff fh bh tk ko
  have hH := ha H' (ex_trans ff fh) bh ko
  refine ⟨fun i hi => ⟨us, us[i]'(by omega), SqL.of hH, by simp [show i < us.length by omega]⟩, fun i hi => ⟨us, SqL.of hH, by omega⟩, fun i x H2 hi hy => ?_⟩
  obtain ⟨rfl, hy⟩ := hy
  have := hy us (SqL.of hH)
  obtain ⟨u, h1, h2⟩ := hx F' ff H2 i xs[i] (by simp [hi])
  rw [this] at h1
  cases h1
  exact ⟨xs[i], by simp [hi], ex_refl _, fun _ => h2⟩
theorem loop_tup {a : Addr} {us : List V} {xs : List SD} (ha : H a = some (.tup us)) (hx : ∀ F', Ex F F' → ∀ H', ∀ (i : Nat) (y : SD), xs[i]? = some y → ∃ u, us[i]? = some u ∧ RepS w F' B H' y.2 y.1 u []) (hl : xs.length = us.length) : LoopAt w (Itt w.K a) xs [] F B H := by
  intro F' H' ff fh bh tk ko
  have hH := tk a _ ha
  refine ⟨fun i hi => ⟨us, us[i]'(by omega), SqT.of hH, by simp [show i < us.length by omega]⟩, fun i hi => ⟨us, SqT.of hH, by omega⟩, fun i x H2 hi hy => ?_⟩
  obtain ⟨rfl, hy⟩ := hy
  have := hy us (SqT.of hH)
  obtain ⟨u, h1, h2⟩ := hx F' ff H2 i xs[i] (by simp [hi])
  rw [this] at h1
  cases h1
  exact ⟨xs[i], by simp [hi], ex_refl _, fun _ => h2⟩
theorem loop_rng {lo : Int} {n : Nat} : LoopAt w (Itr lo n) ((List.range n).map fun (i : Nat) => (Sh.frz, D.int (lo + i))) [] F B H := by
  intro F' H' ff fh bh tk ko
  refine ⟨fun i hi => by show i < n; simpa using hi, fun i hi => by show n ≤ i; simpa using hi, fun i x H2 hi hy => ?_⟩
  obtain ⟨rfl, rfl⟩ := hy
  have hi' : i < n := by simpa using hi
  exact ⟨(.frz, .int (lo + i)), by simp [hi'], ex_refl _, fun _ => RepS_frz.mpr ⟨rfl, rfl⟩⟩
theorem loop_str {z : Str} : LoopAt w (Its z) (z.cps.toList.map fun c => (Sh.frz, D.str ⟨#[c]⟩)) [] F B H := by
  intro F' H' ff fh bh tk ko
  refine ⟨fun i hi => by simpa [L2.Its] using hi, fun i hi => by simpa [L2.Its] using hi, fun i x H2 hi hy => ?_⟩
  obtain ⟨rfl, c, h1, rfl⟩ := hy
  refine ⟨(.frz, .str ⟨#[c]⟩), ?_, ex_refl _, fun _ => RepS_frz.mpr ⟨rfl, rfl⟩⟩
  rw [List.getElem?_map, Array.getElem?_toList, h1]
  rfl
theorem frz_items {ds : List D} {vs : List V} (r : Reps w F ds vs) : ∀ F', Ex F F' → ∀ H', ∀ (i : Nat) (y : SD), (ds.map fun d => (Sh.frz, d))[i]? = some y → ∃ u, vs[i]? = some u ∧ RepS w F' B H' y.2 y.1 u [] := by
  intro F' ff H' i y h
  rw [List.getElem?_map] at h
  obtain ⟨d, hd, rfl⟩ := Option.map_eq_some_iff.mp h
  obtain ⟨u, h1, h2⟩ := r.get hd
  exact ⟨u, h1, RepS_frz.mpr ⟨Rep.mono ff d u h2, rfl⟩⟩
theorem bor_items {ds : List D} {vs : List V} (r : Reps w B ds vs) : ∀ F', Ex F F' → ∀ H', ∀ (i : Nat) (y : SD), (ds.map fun d => (if d.scal then Sh.frz else Sh.bor, d))[i]? = some y → ∃ u, vs[i]? = some u ∧ RepS w F' B H' y.2 y.1 u [] := by
  intro F' ff H' i y h
  rw [List.getElem?_map] at h
  obtain ⟨d, hd, rfl⟩ := Option.map_eq_some_iff.mp h
  obtain ⟨u, h1, h2⟩ := r.get hd
  exact ⟨u, h1, adj_ok (s := .bor) (RepS_bor.mpr ⟨h2, rfl⟩)⟩
def IRes (w : Wd) (rt : List Nat) (ef : List Nat) (F B H : Hp) (fps : Nat → List Addr) (σ : L2.St) (env1 : Env) (H1 : Hp) (fps1 : Nat → List Addr) (xs : List SD) (v : V) : Prop :=
  ∃ F2 as, Sta w F2 B H1 σ env1 fps1 ∧ Stp ef F H fps F2 H1 fps1 ∧ (∀ a ∈ as, ∃ i ∈ rt, a ∈ fps1 i) ∧
      ((∃ a us, v = .ref a ∧ H1 a = some (.lst us) ∧ LoopAt w (Itl w.K a) xs as F2 B H1) ∨ (∃ a us, v = .ref a ∧ H1 a = some (.tup us) ∧ LoopAt w (Itt w.K a) xs as F2 B H1) ∨ (∃ z, v = .str z ∧ LoopAt w (Its z) xs as F2 B H1))
/-- the things of a container -/
theorem items_ok {e : E} {x : SD} {xs : List SD} {ef : List Nat} {v : V} (hi : itemsOf e.place x = some xs) (S1 : Sta w F1 B H1 σ env1 fps1) (T1 : Stp ef F H fps F1 H1 fps1) (V1 : VO w e.root ef H fps F1 B H1 fps1 x v) :
    IRes w e.root.toList ef F B H fps σ env1 H1 fps1 xs v := by
  obtain ⟨s, d⟩ := x
  obtain ⟨fp, r, k⟩ := V1
  cases d with
  | str z =>
    have hi' : (if z.length ≤ sizeLine then some (z.cps.toList.map fun c => (Sh.frz, D.str ⟨#[c]⟩)) else none) = some xs := by cases s <;> exact hi
    obtain ⟨_, hi'⟩ := iteP_some hi'
    cases hi'
    exact ⟨F1, [], S1, T1, fun a ha => (by cases ha), .inr (.inr ⟨z, RepS.scalar (F' := F1) rfl r, loop_str⟩)⟩
  | lst ds =>
    cases s with
    | frz =>
      cases hi
      obtain ⟨a, vs, e1, e2, e3⟩ := (RepS_frz.mp r).1
      exact ⟨F1, [], S1, T1, fun a ha => (by cases ha), .inl ⟨a, vs, e1, S1.fh _ _ e2, loop_list (fun H' f b k => f _ _ e2) (frz_items e3) (by rw [List.length_map, e3.length])⟩⟩
    | bor =>
      cases hi
      obtain ⟨a, vs, e1, e2, e3⟩ := (RepS_bor.mp r).1
      exact ⟨F1, [], S1, T1, fun a ha => (by cases ha), .inl ⟨a, vs, e1, S1.bh _ _ e2, loop_list (fun H' f b k => b _ _ e2) (bor_items e3) (by rw [List.length_map, e3.length])⟩⟩
    | lst t =>
      have r' : ∃ a vs fq, v = .ref a ∧ fp = a :: fq ∧ H1 a = some (.lst vs) ∧ RepSs w F1 B H1 ds t vs fq := r
      obtain ⟨a, vs, fq, e1, rfl, e3, e4⟩ := r'
      cases hp : e.place with
      | true =>
        rw [hp] at hi
        obtain ⟨i, hr⟩ : ∃ i, e.root = some i := by
          cases e <;> first | exact ⟨_, rfl⟩ | cases hp
        rw [hr] at k
        have own : ∀ b ∈ [a], ∃ j ∈ e.root.toList, b ∈ fps1 j := fun b hb => by
          rw [List.mem_singleton.mp hb, hr]
          exact ⟨i, .head _, k a (.head _)⟩
        have fin : xs = ds.map (fun d => (Sh.frz, d)) → Reps w F1 ds vs → IRes w e.root.toList ef F B H fps σ env1 H1 fps1 xs v := fun ex rr => (⟨F1, [a], S1, T1, own, .inl ⟨a, vs, e1, e3, by
          rw [ex]
          exact loop_list (fun H' f b k => k a _ (.head _) e3) (frz_items rr) (by rw [List.length_map, rr.length])⟩⟩ : IRes w e.root.toList ef F B H fps σ env1 H1 fps1 xs v)
        have sc : ds.all D.scal = true → Reps w F1 ds vs := fun hs => Reps.scalar hs (RepSs.all S1.fh S1.bh ds t vs fq e4)
        cases t with
        | frz =>
          cases hi
          exact fin rfl (repss_all _ _ _ e4)
        | _ =>
          obtain ⟨hs, hi⟩ := ite_some (show (if ds.all D.scal = true then some (ds.map fun d => (Sh.frz, d)) else none) = some xs from hi)
          cases hi
          exact fin rfl (sc hs)
      | false =>
        rw [hp] at hi
        rw [root_place.mpr hp] at k ⊢
        obtain ⟨k1, k2⟩ := k
        obtain ⟨hw, hi⟩ := ite_some (show (if wk t .frz = true then some (ds.map fun d => (Sh.frz, d)) else none) = some xs from hi)
        cases hi
        have hn : noB (.lst t) = true := by
          show noB t = true
          cases t <;> exact hw
        obtain ⟨fz, z1, z2⟩ := frzS (.lst ds) (.lst t) v (a :: fq) hn ⟨a, vs, fq, e1, rfl, e3, e4⟩
        obtain ⟨a', vs', e1', e2', e3'⟩ := z2 (grow F1 H1 fz) (grow_ex S1.fh fz) fun a ha => grow_at ha
        have S2 := Sta.cut S1 z1 k1.ds
        exact ⟨grow F1 H1 fz, [], S2, Stp.cut T1 z1 k2, fun a ha => (by cases ha), .inl ⟨a', vs', e1', S2.fh _ _ e2', loop_list (fun H' f b k => f _ _ e2') (frz_items e3') (by rw [List.length_map, e3'.length])⟩⟩
    | _ => exact False.elim r
  | tup ds =>
    have scl : ds.all D.scal = true → xs = ds.map (fun d => (Sh.frz, d)) → IRes w e.root.toList ef F B H fps σ env1 H1 fps1 xs v := fun hs ex => by
      obtain ⟨a, vs, e1, e2, e3⟩ := RepS.all S1.fh S1.bh _ _ _ _ r
      exact (⟨F1, [], S1, T1, fun a ha => (by cases ha), .inr (.inl ⟨a, vs, e1, e2, by rw [ex]; exact loop_tup e2 (frz_items (Reps.scalar hs e3)) (by rw [List.length_map, e3.length])⟩)⟩ : IRes w e.root.toList ef F B H fps σ env1 H1 fps1 xs v)
    cases s with
    | frz =>
      cases hi
      obtain ⟨a, vs, e1, e2, e3⟩ := (RepS_frz.mp r).1
      exact ⟨F1, [], S1, T1, fun a ha => (by cases ha), .inr (.inl ⟨a, vs, e1, S1.fh _ _ e2, loop_tup (S1.fh _ _ e2) (frz_items e3) (by rw [List.length_map, e3.length])⟩)⟩
    | bor =>
      cases hi
      obtain ⟨a, vs, e1, e2, e3⟩ := (RepS_bor.mp r).1
      exact ⟨F1, [], S1, T1, fun a ha => (by cases ha), .inr (.inl ⟨a, vs, e1, S1.bh _ _ e2, loop_tup (S1.bh _ _ e2) (bor_items e3) (by rw [List.length_map, e3.length])⟩)⟩
    | tup ts =>
      have hi' : (if (!e.place && ts.all fun t => wk t .frz) = true then some (ds.map fun d => (Sh.frz, d)) else if ds.all D.scal = true then some (ds.map fun d => (Sh.frz, d)) else none) = some xs := hi
      split at hi'
      · rename_i hc
        cases hi'
        obtain ⟨hp, hw⟩ := and2 hc
        have hp' : e.place = false := by simpa using hp
        rw [root_place.mpr hp'] at k ⊢
        obtain ⟨k1, k2⟩ := k
        have hn : ∀ ts : List Sh, ts.all (fun t => wk t .frz) = true → noBs ts = true := by
          intro ts
          induction ts with
          | nil => intro _; rfl
          | cons t ts ih =>
            intro h
            obtain ⟨h1, h2⟩ := and2 (show (wk t .frz && ts.all fun t => wk t .frz) = true from h)
            show (noB t && noBs ts) = true
            rw [ih h2, show noB t = true by cases t <;> exact h1]
            rfl
        obtain ⟨fz, z1, z2⟩ := frzS (.tup ds) (.tup ts) v fp (hn ts hw) r
        obtain ⟨a', vs', e1', e2', e3'⟩ := z2 (grow F1 H1 fz) (grow_ex S1.fh fz) fun a ha => grow_at ha
        have S2 := Sta.cut S1 z1 k1.ds
        exact ⟨grow F1 H1 fz, [], S2, Stp.cut T1 z1 k2, fun a ha => (by cases ha), .inr (.inl ⟨a', vs', e1', S2.fh _ _ e2', loop_tup (S2.fh _ _ e2') (frz_items e3') (by rw [List.length_map, e3'.length])⟩)⟩
      · obtain ⟨hs, hi'⟩ := ite_some hi'
        cases hi'
        exact scl hs rfl
    | _ => exact False.elim r
  | _ => cases s <;> cases hi
end
end DI
/-! DI8d: what a loop walks, as it is written. -/
namespace DI
open PySem L2
variable {F F' F1 F2 B B' H H' H1 H2 : Hp} {σ σ1 : L2.St} {env env1 env2 : Env} {fps fps' fps1 fps2 : Nat → List Addr}
section
variable {X : Cx} {g : Gam} {w : Wd} {sg : Sig} {cl : Calls} {W : WX}
theorem PI.imp' {tg e : Expr} {t t' : TI} (h : PI X tg e t) (hi : ∀ σ H Q, t' σ H Q → t σ H Q) : PI X tg e t' := ⟨fun pins s σ H Q I q => h.run pins s σ H Q I (hi σ H Q q)⟩
theorem PI.or' {tg e : Expr} {t t' : TI} (h : PI X tg e t) (h' : PI X tg e t') : PI X tg e (fun σ H R => t σ H R ∨ t' σ H R) := ⟨fun pins s σ H Q I q => q.elim (h.run pins s σ H Q I) (h'.run pins s σ H Q I)⟩
theorem enums_get : ∀ {xs : List SD} {k i : Nat} {y : SD}, xs[i]? = some y → (enums k xs)[i]? = some (.tup [.frz, y.1], .tup [.int (k + i : Nat), y.2])
  | [], _, _, _, h => by simp at h
  | (s, d) :: r, k, 0, _, h => by
    simp at h
    subst h
    rfl
  | (s, d) :: r, k, i + 1, y, h => by
    rw [enums, List.getElem?_cons_succ, enums_get (by simpa using h), show k + (i + 1) = k + 1 + i by omega]
theorem enums_len : ∀ {xs : List SD} {k : Nat}, (enums k xs).length = xs.length
  | [], _ => rfl
  | (s, d) :: r, k => by rw [enums, List.length_cons, List.length_cons, enums_len]
theorem zips_get : ∀ {xs ys : List SD} {i : Nat} {x y : SD}, xs[i]? = some x → ys[i]? = some y → (zips xs ys)[i]? = some (.tup [x.1, y.1], .tup [x.2, y.2])
  | [], _, _, _, _, h, _ => by simp at h
  | _ :: _, [], _, _, _, _, h => by simp at h
  | (s, d) :: r, (t, e) :: q, 0, _, _, h, k => by
    simp at h k
    subst h k
    rfl
  | (s, d) :: r, (t, e) :: q, i + 1, x, y, h, k => by
    rw [zips, List.getElem?_cons_succ, zips_get (by simpa using h) (by simpa using k)]
theorem zips_len : ∀ {xs ys : List SD}, (zips xs ys).length = min xs.length ys.length
  | [], _ => by simp [zips]
  | _ :: _, [] => by simp [zips]
  | (s, d) :: r, (t, e) :: q => by rw [zips, List.length_cons, List.length_cons, List.length_cons, zips_len]; omega
theorem RepS.up {s : Sh} {d : D} {v : V} (tk : TK H H') (r : RepS w F B H d s v []) : RepS w F B H' d s v [] := RepS.mono (ex_refl F) (ex_refl B) tk d s v [] (fun a o ha => by cases ha) r
theorem loop_enum {a : Addr} {xs : List SD} {as : List Addr} (h : LoopAt w (Itl w.K a) xs as F B H) : LoopAt w (Ite w.K a) (enums 0 xs) as F B H := by
  intro F' H' e1 e2 e3 e4 e5
  obtain ⟨h1, h2, h3⟩ := h F' H' e1 e2 e3 e4 e5
  rw [LoopOk, enums_len]
  refine ⟨fun i hi => h1 i hi, fun i hi => h2 i hi, fun i v H2 hi hy => ?_⟩
  obtain ⟨T, x, rfl, hT, rfl, hx⟩ := hy
  obtain ⟨y, y1, y2, y3⟩ := h3 i x H' hi ⟨rfl, hx⟩
  have eh : Ex H' (upd H' T (.tup [.int (i : Nat), x])) := ex_upd hT
  refine ⟨_, enums_get y1, eh, fun ff => ⟨T, _, rfl, upd_same, .int (i : Nat), [x], [], [], rfl, rfl, RepS_frz.mpr ⟨?_, rfl⟩, x, [], [], [], rfl, rfl, RepS.up (fun a xs e => eh a _ e) (y3 ff), rfl, rfl⟩⟩
  show V.int _ = V.int _
  simp
theorem loop_zip {a b : Addr} {xs ys : List SD} {as bs : List Addr} (h : LoopAt w (Itl w.K a) xs as F B H) (k : LoopAt w (Itl w.K b) ys bs F B H) : LoopAt w (Itz w.K a b) (zips xs ys) (as ++ bs) F B H := by
  intro F' H' e1 e2 e3 e4 e5
  obtain ⟨h1, h2, h3⟩ := h F' H' e1 e2 e3 e4 e5.l
  obtain ⟨k1, k2, k3⟩ := k F' H' e1 e2 e3 e4 e5.r
  rw [LoopOk, zips_len]
  refine ⟨fun i hi => ?_, fun i hi => ?_, fun i v H2 hi hy => ?_⟩
  · obtain ⟨us, u, q1, q2⟩ := h1 i (by omega)
    obtain ⟨ws, x, q3, q4⟩ := k1 i (by omega)
    exact ⟨us, ws, u, x, q1, q3, q2, q4⟩
  · by_cases c : xs.length ≤ i
    · obtain ⟨us, q1, q2⟩ := h2 i c
      obtain ⟨ws, q3⟩ : ∃ ws, SqL w.K H' b ws := by
        by_cases c2 : ys.length ≤ i
        · obtain ⟨ws, q3, _⟩ := k2 i c2
          exact ⟨ws, q3⟩
        · obtain ⟨ws, _, q3, _⟩ := k1 i (by omega)
          exact ⟨ws, q3⟩
      exact ⟨us, ws, q1, q3, .inl q2⟩
    · obtain ⟨us, _, q1, _⟩ := h1 i (by omega)
      obtain ⟨ws, q3, q4⟩ := k2 i (by omega)
      exact ⟨us, ws, q1, q3, .inr q4⟩
  · obtain ⟨T, x, y, rfl, hT, rfl, hx, hy⟩ := hy
    obtain ⟨x', x1, x2, x3⟩ := h3 i x H' (by omega) ⟨rfl, hx⟩
    obtain ⟨y', y1, y2, y3⟩ := k3 i y H' (by omega) ⟨rfl, hy⟩
    have eh : Ex H' (upd H' T (.tup [x, y])) := ex_upd hT
    have tk : TK H' (upd H' T (.tup [x, y])) := fun a xs e => eh a _ e
    exact ⟨_, zips_get x1 y1, eh, fun ff => ⟨T, _, rfl, upd_same, x, [y], [], [], rfl, rfl, RepS.up tk (x3 ff), y, [], [], [], rfl, rfl, RepS.up tk (y3 ff), rfl, rfl⟩⟩
/-- a container -/
theorem pi_E {e : E} {x tg : Expr} (hw : w.K = X.K) (he : PE X x (tE w sg cl W e)) : PI X tg x (tI w sg cl W (.e e)) := by
  refine PI.imp' (PI.or' (pi_list he) (PI.or' (pi_tup he) (pi_str he))) fun σ H R ⟨env, F, B, fps, r, S, hs, q⟩ => ?_
  have hs' : M.bind (ev sg cl e) (fun r => M.opt (itemsOf e.place r)) env = some r := hs
  rcases bind_ok hs' with ⟨x, env1, h1, h2⟩ | ⟨c, fs, env1, h1, rfl⟩
  · obtain ⟨xs, hx, rfl⟩ := opt_ok h2
    have go : ∀ {P : V → Hp → Prop}, (∀ v H1 F1 fps1, Sta w F1 B H1 σ env1 fps1 → IRes w e.root.toList (effE sg e) F B H fps σ env1 H1 fps1 xs v → (∃ fp, RepS w F1 B H1 x.2 x.1 v fp) → P v H1) → tE w sg cl W e σ H P := fun hP => ⟨env, F, B, fps, _, S, h1, fun v H1 F1 fps1 S1 T1 V1 => hP v H1 F1 fps1 S1 (items_ok hx S1 T1 V1) (V1.elim fun fp z => ⟨fp, z.1⟩)⟩
    rw [← hw]
    obtain ⟨s, d⟩ := x
    cases d with
    | lst ds =>
      refine .inl (go fun v H1 F1 fps1 S1 ⟨F2, as, S2, T2, ha, hj⟩ hv => ?_)
      obtain ⟨p, ps, e1, e2, _⟩ := v_lst S1.fh S1.bh hv
      rcases hj with ⟨a, us, rfl, h3, h4⟩ | ⟨a, us, rfl, h3, _⟩ | ⟨z, rfl, _⟩
      · exact ⟨a, rfl, ⟨us, SqL.of h3⟩, q _ H1 F2 fps1 as S2 T2 h4 ha⟩
      · cases e1
        rw [e2] at h3
        cases h3
      · cases e1
    | tup ds =>
      refine .inr (.inl (go fun v H1 F1 fps1 S1 ⟨F2, as, S2, T2, ha, hj⟩ hv => ?_))
      obtain ⟨p, ps, e1, e2, _⟩ := v_tup S1.fh S1.bh hv
      rcases hj with ⟨a, us, rfl, h3, _⟩ | ⟨a, us, rfl, h3, h4⟩ | ⟨z, rfl, _⟩
      · cases e1
        rw [e2] at h3
        cases h3
      · exact ⟨a, rfl, ⟨us, SqT.of h3⟩, q _ H1 F2 fps1 as S2 T2 h4 ha⟩
      · cases e1
    | str z0 =>
      refine .inr (.inr (go fun v H1 F1 fps1 S1 ⟨F2, as, S2, T2, ha, hj⟩ hv => ?_))
      have ev := v_str hv
      rcases hj with ⟨a, us, rfl, h3, _⟩ | ⟨a, us, rfl, h3, _⟩ | ⟨z, rfl, h4⟩
      · cases ev
      · cases ev
      · exact ⟨z, rfl, q _ H1 F2 fps1 as S2 T2 h4 ha⟩
    | _ => cases s <;> cases hx
  · exact .inl ⟨env, F, B, fps, _, S, h1, fun cls dx H1 F1 fps1 S1 T1 x1 => q cls dx H1 F1 fps1 S1 T1 x1⟩
theorem evs_length : ∀ {as : Es} {env env' : Env} {xs : List SD}, evs sg cl as env = some (.ok xs env') → xs.length = as.length
  | .nil, _, _, _, h => by cases h; rfl
  | .cons e es, _, _, _, h => by
    rcases bind_ok (show M.bind (ev sg cl e) _ _ = _ from h) with ⟨x, env1, h1, h2⟩ | ⟨_, _, _, _, z⟩
    · rcases bind_ok h2 with ⟨ys, env3, h5, h6⟩ | ⟨_, _, _, _, z⟩
      · cases pure_ok h6
        rw [List.length_cons, evs_length h5]
        rfl
      · cases z
    · cases z
theorem pi_rng (C : Ctx X g w sg W) {as : Es} {tg : Expr} {x : Str} {args : List Expr} {p pos : Pos} (hx : g.glo x "range" = true) (hs : args.all notStar = true) (ha : PA X args (tEs w sg cl W as)) (hl : args.length = as.length) (h12 : args.length = 1 ∨ args.length = 2) : PI X tg (.Call (.Name x p) args [] pos) (tI w sg cl W (.rng as)) := by
  obtain ⟨rfl, m2, m3, m4⟩ := glo_ok C hx
  have hm : X.mg (Str.ofString "range") = none := C.bl _ (by decide +kernel)
  have start : ∀ {σ : L2.St} {H : Hp} {R : L2.It → Hp → Prop}, tI w sg cl W (.rng as) σ H R → ∃ n, n = as.length ∧ tEs w sg cl W as σ H fun vs H1 => (n = 1 ∧ ∃ j : Int, vs = [.int j] ∧ -(2 ^ 62) ≤ j ∧ j < 2 ^ 62 ∧ R (Itr 0 j.toNat) H1) ∨
      (n = 2 ∧ ∃ i j : Int, vs = [.int i, .int j] ∧ (-(2 ^ 62) ≤ i ∧ i < 2 ^ 62 ∧ -(2 ^ 62) ≤ j ∧ j < 2 ^ 62) ∧ R (Itr i (j - i).toNat) H1) := fun {σ H R} ⟨env, F, B, fps, r, S, hs, q⟩ => by
    have hs' : M.bind (evs sg cl as) (fun r => M.opt (rangeOf r)) env = some r := hs
    refine ⟨as.length, rfl, ?_⟩
    rcases bind_ok hs' with ⟨xs, env1, h1, h2⟩ | ⟨c, fs, env1, h1, rfl⟩
    · refine ⟨env, F, B, fps, _, S, h1, fun vs H1 F1 fps1 S1 T1 R1 => ?_⟩
      obtain ⟨ys, hy, rfl⟩ := opt_ok h2
      have hlen := evs_length h1
      rcases xs with _ | ⟨⟨s1, d1⟩, _ | ⟨⟨s2, d2⟩, _ | ⟨⟨s3, d3⟩, _ | ⟨_, _⟩⟩⟩⟩
      · cases hy
      · cases d1 <;> first | (cases hy; done) | skip
        rename_i n
        obtain ⟨hc, hy⟩ := ite_some hy
        cases hy
        obtain ⟨v, e, h1⟩ := repA1 R1
        rw [v_int h1] at e
        unfold inR at hc
        simp only [Bool.and_eq_true, decide_eq_true_eq] at hc
        refine .inl ⟨by rw [← hlen]; rfl, n, e, hc.1, hc.2, ?_⟩
        have := q (Itr 0 n.toNat) H1 F1 fps1 [] S1 T1 (by
          have := loop_rng (w := w) (F := F1) (B := B) (H := H1) (lo := 0) (n := n.toNat)
          unfold rangeD
          rw [Int.sub_zero]
          exact this) (fun a ha => by cases ha)
        exact this
      · cases d1 <;> cases d2 <;> first | (cases hy; done) | skip
        rename_i n m
        obtain ⟨hc, hy⟩ := ite_some hy
        cases hy
        obtain ⟨v, u, e, h1, h2⟩ := repA2 R1
        rw [v_int h1, v_int h2] at e
        unfold inR at hc
        simp only [Bool.and_eq_true, decide_eq_true_eq] at hc
        exact .inr ⟨by rw [← hlen]; rfl, n, m, e, ⟨hc.1.1, hc.1.2, hc.2.1, hc.2.2⟩, q _ H1 F1 fps1 [] S1 T1 loop_rng (fun a ha => by cases ha)⟩
      · simp [rangeOf] at hy
      · simp [rangeOf] at hy
    · exact ⟨env, F, B, fps, _, S, h1, q⟩
  rcases args with _ | ⟨a, _ | ⟨b, _ | ⟨c, r⟩⟩⟩
  · rcases h12 with z | z <;> cases z
  · obtain ⟨n1, _⟩ := and2 (show (notStar a && true) = true from hs)
    refine PI.imp' (pi_range1 m2 hm ha (by rw [star_ne n1]; rfl)) fun σ H R h => ?_
    obtain ⟨n, hn, h⟩ := start h
    refine tEs.mono h fun vs H1 q => ?_
    rcases q with ⟨_, q⟩ | ⟨e, _⟩
    · exact q
    · rw [hn, ← hl] at e
      cases e
  · obtain ⟨n1, n2⟩ := and2 (show (notStar a && (notStar b && true)) = true from hs)
    obtain ⟨n2, _⟩ := and2 n2
    refine PI.imp' (pi_range2 m2 hm ha (by rw [star_ne n1, star_ne n2]; rfl) (by rw [star_ne n2]; rfl)) fun σ H R h => ?_
    obtain ⟨n, hn, h⟩ := start h
    refine tEs.mono h fun vs H1 q => ?_
    rcases q with ⟨e, _⟩ | ⟨_, q⟩
    · rw [hn, ← hl] at e
      cases e
    · exact q
  · rcases h12 with z | z <;> simp at z
theorem opt_of' {α β : Type} {o : Option α} {k : α → M β} {r : Out β} (h : M.bind (M.opt o) k env = some r) : ∃ a, o = some a ∧ k a env = some r := by
  rcases bind_ok h with ⟨a, e, h1, h2⟩ | ⟨_, _, _, h1, _⟩
  · obtain ⟨b, hb, e'⟩ := opt_ok h1
    cases e'
    exact ⟨_, hb, h2⟩
  · obtain ⟨_, _, z⟩ := opt_ok h1
    cases z
theorem isLst_ok {d : D} (h : d.isLst = true) : ∃ ds, d = .lst ds := by
  cases d <;> first | exact ⟨_, rfl⟩ | cases h
/-- of a list, the walk of a list -/
theorem ires_lst {rt ef : List Nat} {xs : List SD} {v : V} {s : Sh} {ds : List D} (S1 : Sta w F1 B H1 σ env1 fps1) (hv : ∃ fp, RepS w F1 B H1 (.lst ds) s v fp) (h : IRes w rt ef F B H fps σ env1 H1 fps1 xs v) :
    ∃ F2 as a us, Sta w F2 B H1 σ env1 fps1 ∧ Stp ef F H fps F2 H1 fps1 ∧ (∀ a ∈ as, ∃ i ∈ rt, a ∈ fps1 i) ∧ v = .ref a ∧ H1 a = some (.lst us) ∧ LoopAt w (Itl w.K a) xs as F2 B H1 := by
  obtain ⟨F2, as, S2, T2, ha, hj⟩ := h
  obtain ⟨p, ps, e1, e2, _⟩ := v_lst S1.fh S1.bh hv
  rcases hj with ⟨a, us, rfl, h3, h4⟩ | ⟨a, us, rfl, h3, _⟩ | ⟨z, rfl, _⟩
  · exact ⟨F2, as, a, us, S2, T2, ha, rfl, h3, h4⟩
  · cases e1
    rw [e2] at h3
    cases h3
  · cases e1
theorem VO.weak {rt : Option Nat} {ef eg : List Nat} {x : SD} {v : V} (h : VO w rt ef H fps F' B H' fps' x v) (hs : ∀ i ∈ ef, i ∈ eg) : VO w rt eg H fps F' B H' fps' x v := by
  obtain ⟨fp, a, b⟩ := h
  refine ⟨fp, a, ?_⟩
  revert b
  cases rt with
  | some i => exact id
  | none => exact fun ⟨b1, b2⟩ => ⟨b1, b2.weak hs⟩
theorem pi_en (C : Ctx X g w sg W) {e : E} {x : Str} {arg : Expr} {elts : List Expr} {kk : _} {p pos tpos : Pos} (hx : g.glo x "enumerate" = true) (hn : notStar arg = true) (he : PE X arg (tE w sg cl W e)) : PI X (.Tuple elts kk tpos) (.Call (.Name x p) [arg] [] pos) (tI w sg cl W (.enum e)) := by
  obtain ⟨rfl, m2, m3, m4⟩ := glo_ok C hx
  refine PI.imp' (pi_enum m2 (C.bl _ (by decide +kernel)) (pa_pl he pa_nil hn) (by rw [star_ne hn]; rfl)) fun σ H R ⟨env, F, B, fps, r, S, hs, q⟩ => ?_
  have hs' : M.bind (ev sg cl e) (fun r => if r.2.isLst = true then M.bind (M.opt (itemsOf e.place r)) fun xs => M.pure (enums 0 xs) else M.stuck) env = some r := hs
  rw [C.K]
  rcases bind_ok hs' with ⟨⟨s, d⟩, env1, h1, h2⟩ | ⟨c, fs, env1, h1, rfl⟩
  · refine ⟨env, F, B, fps, _, S, h1, fun v H1 F1 fps1 S1 T1 V1 => ?_⟩
    split at h2
    · rename_i hl
      obtain ⟨ds, rfl⟩ := isLst_ok hl
      obtain ⟨xs, hx, h2⟩ := opt_of' h2
      cases pure_ok h2
      obtain ⟨F2, as, a, us, S2, T2, ha, rfl, h3, h4⟩ := ires_lst S1 (V1.elim fun fp z => ⟨fp, z.1⟩) (items_ok hx S1 T1 V1)
      exact ⟨a, us, rfl, SqL.of h3, q _ H1 F2 fps1 as S2 T2 (loop_enum h4) ha⟩
    · cases h2
  · exact ⟨env, F, B, fps, _, S, h1, fun cls dx H1 F1 fps1 S1 T1 x1 => q cls dx H1 F1 fps1 S1 T1 x1⟩
theorem pi_zp (C : Ctx X g w sg W) {e f : E} {x : Str} {a1 a2 : Expr} {elts : List Expr} {kk : _} {p pos tpos : Pos} (hx : g.glo x "zip" = true) (n1 : notStar a1 = true) (n2 : notStar a2 = true) (wf : out e.root (effE sg f) = true) (he : PE X a1 (tE w sg cl W e)) (hf : PE X a2 (tE w sg cl W f)) :
    PI X (.Tuple elts kk tpos) (.Call (.Name x p) [a1, a2] [] pos) (tI w sg cl W (.zip e f)) := by
  obtain ⟨rfl, m2, m3, m4⟩ := glo_ok C hx
  refine PI.imp' (pi_zip m2 (C.bl _ (by decide +kernel)) (pa_pl he (pa_pl hf pa_nil n2) n1) (star_ne n1 _ _) (star_all (es := [a2]) (by show (notStar a2 && true) = true; rw [n2]; rfl) _ _)) fun σ H R ⟨env, F, B, fps, r, S, hs, q⟩ => ?_
  have hs' : M.bind (ev sg cl e) (fun r => if r.2.isLst = true then M.bind (M.opt (itemsOf e.place r)) fun xs => M.bind (ev sg cl f) fun q => if q.2.isLst = true then M.bind (M.opt (itemsOf f.place q)) fun ys => M.pure (zips xs ys) else M.stuck else M.stuck) env = some r := hs
  have s1 : ∀ i ∈ effE sg e, i ∈ effI sg (.zip e f) := mem_l
  have s2 : ∀ i ∈ effE sg f, i ∈ effI sg (.zip e f) := mem_r
  rw [C.K]
  rcases bind_ok hs' with ⟨⟨s, d⟩, env1, h1, h2⟩ | ⟨c, fs, env1, h1, rfl⟩
  · refine ⟨env, F, B, fps, _, S, h1, fun v H1 F1 fps1 S1 T1 V1 => ?_⟩
    split at h2
    · rename_i hl
      obtain ⟨ds, rfl⟩ := isLst_ok hl
      obtain ⟨xs, hx, h2⟩ := opt_of' h2
      obtain ⟨F2, as, a, us, S2, T2, ha, rfl, h3, h4⟩ := ires_lst S1 (V1.elim fun fp z => ⟨fp, z.1⟩) (items_ok hx S1 T1 V1)
      rcases bind_ok h2 with ⟨⟨s', d'⟩, env2, h5, h6⟩ | ⟨c, fs, env2, h5, rfl⟩
      · refine ⟨env1, F2, B, fps1, _, S2, h5, fun v2 H3 F3 fps3 S3 T3 V3 => ?_⟩
        split at h6
        · rename_i hl'
          obtain ⟨ds', rfl⟩ := isLst_ok hl'
          obtain ⟨ys, hy, h6⟩ := opt_of' h6
          cases pure_ok h6
          obtain ⟨F4, bs, b, ws, S4, T4, hb, rfl, k3, k4⟩ := ires_lst S3 (V3.elim fun fp z => ⟨fp, z.1⟩) (items_ok hy S3 T3 V3)
          -- the first list stands
          have nr : ∀ c ∈ as, ∀ i ∈ effE sg f, c ∉ fps1 i := fun c hc i hi hm => by
            obtain ⟨j, hj, hcj⟩ := ha c hc
            have ej := S2.sp i j c hm hcj
            subst ej
            cases hr : e.root with
            | none => rw [hr] at hj; cases hj
            | some l =>
              rw [hr] at hj
              have el : i = l := List.mem_singleton.mp hj
              exact out_ok wf i (by rw [hr, el]) hi
          have l1 : LoopAt w (Itl w.K a) xs as F4 B H3 := h4.step T4.ff (T4.tup S2) fun c o hc e => T4.fr c o e (nr c hc)
          have g1 : ∃ us', SqL w.K H3 a us' := by
            obtain ⟨k1, k2, _⟩ := l1 F4 H3 (ex_refl _) S4.fh S4.bh (fun _ _ z => z) (fun _ _ _ z => z)
            by_cases c : xs.length ≤ 0
            · obtain ⟨us', q1, _⟩ := k2 0 c
              exact ⟨us', q1⟩
            · obtain ⟨us', _, q1, _⟩ := k1 0 (by omega)
              exact ⟨us', q1⟩
          obtain ⟨us', g1⟩ := g1
          refine ⟨a, b, us', ws, rfl, g1, SqL.of k3, q _ H3 F4 fps3 (as ++ bs) S4 ((T2.weak s1).trans (T4.weak s2)) (loop_zip l1 k4) fun c hc => ?_⟩
          rcases List.mem_append.mp hc with z | z
          · obtain ⟨j, hj, hcj⟩ := ha c z
            refine ⟨j, List.mem_append_left _ hj, ?_⟩
            rw [T4.sm j fun hm => nr c z j hm hcj]
            exact hcj
          · obtain ⟨j, hj, hcj⟩ := hb c z
            exact ⟨j, List.mem_append_right _ hj, hcj⟩
        · cases h6
      · exact ⟨env1, F2, B, fps1, _, S2, h5, fun cls dx H3 F3 fps3 S3 T3 x3 => q cls dx H3 F3 fps3 S3 ((T2.weak s1).trans (T3.weak s2)) x3⟩
    · cases h2
  · exact ⟨env, F, B, fps, _, S, h1, fun cls dx H1 F1 fps1 S1 T1 x1 => q cls dx H1 F1 fps1 S1 (T1.weak s1) x1⟩
end
end DI
/-! DI8e: for. -/
namespace DI
open PySem L2
variable {F F' F1 F2 B B' H H' H1 H2 : Hp} {σ σ1 : L2.St} {env env1 env2 : Env} {fps fps' fps1 fps2 : Nat → List Addr}
section
variable {X : Cx} {g : Gam} {w : Wd} {sg : Sig} {cl : Calls} {W : WX}
theorem forD_cons {tg : Tg} {body : M Fl} {x : SD} {xs : List SD} {r : Out Fl} (h : forD tg body (x :: xs) env = some r) : ∃ env1, asgT tg x env = some (.ok () env1) ∧ ((∃ env2, (body env1 = some (.ok .nx env2) ∨ body env1 = some (.ok .ct env2)) ∧ forD tg body xs env2 = some r) ∨
    (∃ env2, body env1 = some (.ok .bk env2) ∧ r = .ok .nx env2) ∨ (∃ y env2, body env1 = some (.ok (.rt y) env2) ∧ r = .ok (.rt y) env2) ∨ ∃ c fs env2, body env1 = some (.ex c fs env2) ∧ r = .ex c fs env2) := by
  have h' : M.bind (asgT tg x) (fun _ => M.bind body fun f => match f with
    | .nx => forD tg body xs
    | .ct => forD tg body xs
    | .bk => M.pure .nx
    | .rt r => M.pure (.rt r)) env = some r := h
  rcases bind_ok h' with ⟨_, env1, h1, h2⟩ | ⟨c, fs, env1, h1, rfl⟩
  · refine ⟨env1, h1, ?_⟩
    rcases bind_ok h2 with ⟨f, env2, h3, h4⟩ | ⟨c, fs, env2, h3, rfl⟩
    · cases f with
      | nx => exact .inl ⟨env2, .inl h3, h4⟩
      | ct => exact .inl ⟨env2, .inr h3, h4⟩
      | bk => exact .inr (.inl ⟨env2, h3, pure_ok h4⟩)
      | rt y => exact .inr (.inr (.inl ⟨y, env2, h3, pure_ok h4⟩))
    · exact .inr (.inr (.inr ⟨c, fs, env2, h3, rfl⟩))
  · exact (asgT_noex _ _ _ _ _ _ h1).elim
theorem s_for {tg : Tg} {it : It} {body : Ss} {t iter : Expr} {b : List Stmt} {pos : Pos} (hp : PassesOwn (model X.prog X.w) X.A X.env X.xe) (hc : X.calm = true) (hs : ∀ x, foldedSetIterable iter X.env x = pure x) (wf : it.roots.all (fun i => !(tg.slots ++ effSs sg body).contains i) = true)
    (hi : PI X t iter (tI w sg cl W it)) (hg : PG X t (tT w tg)) (hb : PSs X b (tSs w sg cl W body)) : PS X (.For t iter b [] pos) (tS w sg cl W (.for tg it body)) := by
  refine PS.imp (ps_for hp hc hi hg hb hs) fun D σ H ⟨env, F, B, fps, r, S, hst, q⟩ => ?_
  have e1 : ∀ i ∈ effI sg it, i ∈ effS sg (.for tg it body) := mem_l
  have e2 : ∀ i ∈ tg.slots, i ∈ effS sg (.for tg it body) := fun i hi => mem_r i (mem_l i hi)
  have e3 : ∀ i ∈ effSs sg body, i ∈ effS sg (.for tg it body) := fun i hi => mem_r i (mem_r i hi)
  have hst' : M.bind (its sg cl it) (fun xs => forD tg (sts sg cl body) xs) env = some r := hst
  rcases bind_ok hst' with ⟨xs, env1, h1, h2⟩ | ⟨c, fs, env1, h1, rfl⟩
  · refine ⟨env, F, B, fps, _, S, h1, fun J H1 F1 fps1 as S1 T1 L1 A1 => ?_⟩
    refine ⟨fun i m σ' H' => m = xs.length - i ∧ i ≤ xs.length ∧ ∃ env' F' fps', Sta w F' B H' σ' env' fps' ∧ Stp (effS sg (.for tg it body)) F H fps F' H' fps' ∧ LoopAt w J xs as F' B H' ∧ (∀ a ∈ as, ∃ j ∈ it.roots, a ∈ fps' j) ∧ forD tg (sts sg cl body) (xs.drop i) env' = some r,
      ⟨_, rfl, Nat.zero_le _, env1, F1, fps1, S1, T1.weak e1, L1, A1, by simpa using h2⟩, ?_⟩
    rintro i m σ' H' ⟨rfl, hi, env', F', fps', S', T', L', A', hf⟩
    obtain ⟨l1, l2, l3⟩ := L' F' H' (ex_refl _) S'.fh S'.bh (fun _ _ z => z) (fun _ _ _ z => z)
    by_cases hlt : i < xs.length
    · refine .inr ⟨l1 i hlt, _, fun σ2 H2 n => ⟨xs.length - (i + 1), by omega, n⟩, fun x H2 hy => ?_⟩
      obtain ⟨y, y1, eh, rr⟩ := l3 i x H2 hlt hy
      have hd : xs.drop i = y :: xs.drop (i + 1) := by
        obtain ⟨hh, ey⟩ := List.getElem?_eq_some_iff.mp y1
        rw [← ey]
        exact List.drop_eq_getElem_cons hh
      rw [hd] at hf
      obtain ⟨env2, a1, hrest⟩ := forD_cons hf
      have S2 : Sta w F' B H2 σ' env' fps' := S'.new eh (ex_refl _) (ex_trans S'.fh eh) fun _ _ z => .inl z
      have T2 : Stp (effS sg (.for tg it body)) F H fps F' H2 fps' := T'.trans (Stp.new S' eh (ex_refl _) (ex_trans S'.fh eh) fun _ _ z => .inl z)
      refine ⟨env', F', B, fps', y, [], env2, S2, rr S'.fh, Kp.nil, a1, fun σ3 fps3 S3 TG3 _ => ?_⟩
      have T3 : Stp (effS sg (.for tg it body)) F H fps F' H2 fps3 := T2.tgt TG3 e2 Fr.nil
      -- the containers stand through target and body
      have nr : ∀ a ∈ as, ∃ j ∈ it.roots, a ∈ fps3 j ∧ j ∉ effSs sg body := fun a ha => by
        obtain ⟨j, hj, haj⟩ := A' a ha
        have := List.all_eq_true.mp wf j hj
        have hn : j ∉ tg.slots ++ effSs sg body := fun z => by
          rw [List.contains_iff_mem.mpr z] at this
          cases this
        refine ⟨j, hj, ?_, fun z => hn (List.mem_append_right _ z)⟩
        rw [TG3.sm j fun z => hn (List.mem_append_left _ z)]
        exact haj
      have L3 : LoopAt w J xs as F' B H2 := L'.step (ex_refl _) (fun a xs z => eh a _ z) fun a o _ z => eh a o z
      have again : ∀ {env4 : Env}, forD tg (sts sg cl body) (xs.drop (i + 1)) env4 = some r → ∀ σ4 H4 F4 fps4, Sta w F4 B H4 σ4 env4 fps4 → Stp (effSs sg body) F' H2 fps3 F4 H4 fps4 →
          (xs.length - (i + 1) = xs.length - (i + 1) ∧ i + 1 ≤ xs.length ∧ ∃ env' F' fps', Sta w F' B H4 σ4 env' fps' ∧ Stp (effS sg (.for tg it body)) F H fps F' H4 fps' ∧ LoopAt w J xs as F' B H4 ∧ (∀ a ∈ as, ∃ j ∈ it.roots, a ∈ fps' j) ∧ forD tg (sts sg cl body) (xs.drop (i + 1)) env' = some r) := fun {env4} hf4 σ4 H4 F4 fps4 S4 T4 => by
        refine ⟨rfl, by omega, env4, F4, fps4, S4, T3.trans (T4.weak e3), L3.step T4.ff (T4.tup S3) (fun a o ha e => T4.fr a o e fun k hk hm => ?_), fun a ha => ?_, hf4⟩
        · obtain ⟨j, _, h1, h2⟩ := nr a ha
          have ej := S3.sp k j a hm h1
          subst ej
          exact h2 hk
        · obtain ⟨j, hj, h1, h2⟩ := nr a ha
          exact ⟨j, hj, by rw [T4.sm j h2]; exact h1⟩
      rcases hrest with ⟨env4, hb4, hf4⟩ | ⟨env4, hb4, rfl⟩ | ⟨y', env4, hb4, rfl⟩ | ⟨c, fs, env4, hb4, rfl⟩
      · rcases hb4 with hb4 | hb4
        · exact ⟨env2, F', B, fps3, _, S3, hb4, fun σ4 H4 F4 fps4 S4 T4 => again hf4 σ4 H4 F4 fps4 S4 T4⟩
        · exact ⟨env2, F', B, fps3, _, S3, hb4, fun σ4 H4 F4 fps4 S4 T4 => again hf4 σ4 H4 F4 fps4 S4 T4⟩
      · exact ⟨env2, F', B, fps3, _, S3, hb4, fun σ4 H4 F4 fps4 S4 T4 => q σ4 H4 F4 fps4 S4 (T3.trans (T4.weak e3))⟩
      · exact ⟨env2, F', B, fps3, _, S3, hb4, fun v σ4 H4 F4 fps4 S4 T4 V4 => q v σ4 H4 F4 fps4 S4 (T3.trans (T4.weak e3)) (V4.elim fun fp z => ⟨fp, z.1, z.2.1, Fr.back T3 (z.2.2.weak e3)⟩)⟩
      · exact ⟨env2, F', B, fps3, _, S3, hb4, fun cls dx σ4 H4 F4 fps4 S4 T4 x4 => q cls dx σ4 H4 F4 fps4 S4 (T3.trans (T4.weak e3)) x4⟩
    · have ei : i = xs.length := by omega
      subst ei
      rw [List.drop_length] at hf
      cases pure_ok (show M.pure Fl.nx env' = some r from hf)
      exact .inl ⟨l2 _ (Nat.le_refl _), q σ' H' F' fps' S' T'⟩
  · exact ⟨env, F, B, fps, _, S, h1, fun cls dx H1 F1 fps1 S1 T1 x1 => q cls dx σ H1 F1 fps1 S1 (T1.weak e1) x1⟩
end
end DI
/-! DI8f: while; items, attributes, names set. -/
namespace DI
open PySem L2
variable {F F' F1 F2 B B' H H' H1 H2 : Hp} {σ σ1 : L2.St} {env env1 env2 : Env} {fps fps' fps1 fps2 : Nat → List Addr}
section
variable {X : Cx} {g : Gam} {w : Wd} {sg : Sig} {cl : Calls} {W : WX}
theorem whileD_ok {c : M Bool} {body : M Fl} {r : Out Fl} (h : whileD c body env = some r) : ∃ n, whileN c body n env = some r := by
  unfold whileD at h
  split at h
  · exact ⟨_, h⟩
  · cases h
theorem s_whl {c : E} {body : Ss} {x : Expr} {b : List Stmt} {pos : Pos} (hp : PassesOwn (model X.prog X.w) X.A X.env X.xe) (hc : PT X x (tB (tE w sg cl W c))) (hb : PSs X b (tSs w sg cl W body)) : PS X (.While x b [] pos) (tS w sg cl W (.whl c body)) := by
  refine PS.imp (ps_while hp hc hb) fun D σ H ⟨env, F, B, fps, r, S, hst, q⟩ => ?_
  have e1 : ∀ i ∈ effE sg c, i ∈ effS sg (.whl c body) := mem_l
  have e2 : ∀ i ∈ effSs sg body, i ∈ effS sg (.whl c body) := mem_r
  obtain ⟨n, hn⟩ := whileD_ok (show whileD (M.bind (ev sg cl c) fun x => M.opt (truth x)) (sts sg cl body) env = some r from hst)
  refine ⟨fun m σ' H' => ∃ env' F' fps', Sta w F' B H' σ' env' fps' ∧ Stp (effS sg (.whl c body)) F H fps F' H' fps' ∧ whileN (M.bind (ev sg cl c) fun x => M.opt (truth x)) (sts sg cl body) m env' = some r, ⟨n, env, F, fps, S, Stp.refl S.fh, hn⟩, ?_⟩
  rintro m σ' H' ⟨env', F', fps', S', T', hw⟩
  cases m with
  | zero => cases hw
  | succ m =>
    have hw' : M.bind (M.bind (ev sg cl c) fun x => M.opt (truth x)) (fun b => if b = true then M.bind (sts sg cl body) fun f => match f with
      | .nx => whileN (M.bind (ev sg cl c) fun x => M.opt (truth x)) (sts sg cl body) m
      | .ct => whileN (M.bind (ev sg cl c) fun x => M.opt (truth x)) (sts sg cl body) m
      | .bk => M.pure .nx
      | .rt r => M.pure (.rt r)
    else M.pure .nx) env' = some r := hw
    rcases bind_ok hw' with ⟨b, env1, h1, h2⟩ | ⟨k, fs, env1, h1, rfl⟩
    · rcases bind_ok h1 with ⟨x, env2, h3, h4⟩ | ⟨_, _, _, _, z⟩
      · obtain ⟨b', ht, e'⟩ := opt_ok h4
        cases e'
        refine ⟨env', F', B, fps', _, S', h3, fun v H1 F1 fps1 S1 T1 V1 => ⟨b, truth_ok ht (V1.elim fun fp z => ⟨fp, z.1⟩), ?_⟩⟩
        have T2 := T'.trans (T1.weak e1)
        cases b with
        | false =>
          cases pure_ok h2
          exact q σ' H1 F1 fps1 S1 T2
        | true =>
          refine ⟨_, fun σ4 H4 n4 => ⟨m, Nat.lt_succ_self m, n4⟩, ?_⟩
          rcases bind_ok (show M.bind (sts sg cl body) (fun f => match f with
            | .nx => whileN (M.bind (ev sg cl c) fun x => M.opt (truth x)) (sts sg cl body) m
            | .ct => whileN (M.bind (ev sg cl c) fun x => M.opt (truth x)) (sts sg cl body) m
            | .bk => M.pure .nx
            | .rt r => M.pure (.rt r)) _ = some r from h2) with ⟨f, env4, h5, h6⟩ | ⟨k, fs, env4, h5, rfl⟩
          · refine ⟨_, F1, B, fps1, _, S1, h5, ?_⟩
            cases f with
            | nx => exact fun σ4 H4 F4 fps4 S4 T4 => ⟨env4, F4, fps4, S4, T2.trans (T4.weak e2), h6⟩
            | ct => exact fun σ4 H4 F4 fps4 S4 T4 => ⟨env4, F4, fps4, S4, T2.trans (T4.weak e2), h6⟩
            | bk =>
              cases pure_ok h6
              exact fun σ4 H4 F4 fps4 S4 T4 => q σ4 H4 F4 fps4 S4 (T2.trans (T4.weak e2))
            | rt y =>
              cases pure_ok h6
              exact fun v σ4 H4 F4 fps4 S4 T4 V4 => q v σ4 H4 F4 fps4 S4 (T2.trans (T4.weak e2)) (V4.elim fun fp z => ⟨fp, z.1, z.2.1, Fr.back T2 (z.2.2.weak e2)⟩)
          · exact ⟨_, F1, B, fps1, _, S1, h5, fun cls dx σ4 H4 F4 fps4 S4 T4 x4 => q cls dx σ4 H4 F4 fps4 S4 (T2.trans (T4.weak e2)) x4⟩
      · cases z
    · rcases bind_ok h1 with ⟨x, env2, h3, h4⟩ | ⟨k', fs', env2, h3, z⟩
      · obtain ⟨_, _, z⟩ := opt_ok h4
        cases z
      · cases z
        exact ⟨env', F', B, fps', _, S', h3, fun cls dx H1 F1 fps1 S1 T1 x1 => q cls dx σ' H1 F1 fps1 S1 (T'.trans (T1.weak e1)) x1⟩
end
end DI
/-! DI8g: op= on names. -/
namespace DI
open PySem L2
variable {F F' F1 F2 B B' H H' H1 H2 : Hp} {σ σ1 : L2.St} {env env1 env2 : Env} {fps fps' fps1 fps2 : Nat → List Addr}
section
variable {X : Cx} {g : Gam} {w : Wd} {sg : Sig} {cl : Calls} {W : WX}
/-- an operation on things that are no containers -/
def OpVS (w : Wd) (o : Op) (R : R2) : Prop := ∀ (x y r : SD) (u v : V) (F B H : Hp) (Q : VK), sem o [x, y] = some r → x.2.scal = true → r.2.scal = true → (∃ fp, RepS w F B H x.2 x.1 u fp) → (∃ fp, RepS w F B H y.2 y.1 v fp) → Ex F H → Ex B H → Cont w F B H r Q → R u v H Q
theorem OpV.small {o : Op} {R : R2} (h : OpV w o (Rtwo R)) : OpVS w o R := fun x y r u v F B H Q hs _ _ h1 h2 eh eb k => by
  obtain ⟨a, b, e, z⟩ := h [x, y] r [u, v] F B H Q hs ⟨u, [v], rfl, h1, v, [], rfl, h2, rfl⟩ eh eb k
  cases e
  exact z
theorem ovs_add : OpVS w .add (fun x y H Q => (rI0 fun i j => .int (i + j)) x y H Q ∨ ∃ i j, x = .str i ∧ y = .str j ∧ i.length + j.length ≤ sizeLine ∧ Q (.str (i ++ j)) H) := by
  intro x y r u v F B H Q hs hx hr h1 h2 eh eb k
  obtain ⟨s, a⟩ := x
  obtain ⟨t, b⟩ := y
  cases a <;> cases b <;> first | (cases hx; done) | (cases hs; done) | skip
  · cases hs
    rw [v_int h1, v_int h2]
    exact .inl ⟨_, _, rfl, rfl, Cont.sc k eh rfl⟩
  · obtain ⟨hz, hs'⟩ := iteP_some hs
    cases hs'
    rw [v_str h1, v_str h2]
    exact .inr ⟨_, _, rfl, rfl, hz, Cont.sc k eh rfl⟩
theorem aug_ok {o : Op} {p : Operator} (h : opAug o = some p) : ∃ R : R2, OpVS w o R ∧ OpR X (inplaceOp p) R := by
  cases o <;> first | (cases h; done) | skip <;> cases h
  · exact ⟨_, ovs_add, iop_add.or iop_add_str⟩
  · exact ⟨_, ov_sub.small, iop_sub⟩
  · exact ⟨_, ov_fdiv.small, iop_fdivW⟩
  · exact ⟨_, ov_shr.small, iop_shr⟩
  · exact ⟨_, ov_band.small, iop_and⟩
  · exact ⟨_, ov_bor.small, iop_or⟩
theorem RepS.rescal {d : D} {s : Sh} {v : V} {fp : List Addr} (hs : d.scal = true) (r : RepS w F B H d s v fp) : RepS w F' B' H' d s v [] := by
  cases s with
  | frz => exact RepS_frz.mpr ⟨RepS.scalar hs r, rfl⟩
  | bor => exact RepS_bor.mpr ⟨RepS.scalar hs r, rfl⟩
  | lst s => obtain ⟨_, rfl⟩ := RepS_lst r; cases hs
  | dic s => rcases RepS_dic r with ⟨_, rfl⟩ | ⟨_, rfl⟩ <;> cases hs
  | tup s => obtain ⟨_, rfl⟩ := RepS_tup r; cases hs
  | obj s => obtain ⟨_, _, rfl⟩ := RepS_obj r; cases hs
theorem s_augv (C : Ctx X g w sg W) {i : Nat} {o : Op} {p : Operator} {e : E} {x : Str} {arg : Expr} {p1 pos : Pos} (ho : opAug o = some p) (hx : g.loc i x = true) (he : PE X arg (tE w sg cl W e)) : PS X (.AugAssign (.Name x p1) p arg pos) (tS w sg cl W (.augv i o e)) := by
  obtain ⟨R, r1, r2⟩ := aug_ok (X := X) (w := w) ho
  obtain ⟨n1, n2, n3, n4⟩ := loc_ok C hx
  refine PS.imp (ps_aug (by rw [C.N]; exact C.nd) n1 n2 he r2 n3) fun D σ H ⟨env, F, B, fps, r, S, hst, q⟩ => ?_
  have hst' : M.bind (getV i) (fun x => if x.2.scal = true then M.bind (ev sg cl e) fun y => M.bind (M.opt (sem o [x, y])) fun r => if r.2.scal = true then M.bind (setV i (some (.frz, r.2))) fun _ => M.pure .nx else M.stuck else M.stuck) env = some r := hst
  rcases bind_ok hst' with ⟨x0, env0, h1, h2⟩ | ⟨c, fs, env1, h1, rfl⟩
  · obtain ⟨x0', hx0, e0⟩ := getV_ok h1
    cases e0
    obtain ⟨v, e1, rr⟩ := S.sl i _ _ hx0
    refine ⟨v, e1, ?_⟩
    split at h2
    · rename_i hsc
      have sub : ∀ j ∈ effE sg e, j ∈ effS sg (.augv i o e) := fun j hj => .tail _ hj
      refine ev_first S sub h2 q fun y u env1 H1 F1 fps1 S1 T1 V1 h3 => ?_
      obtain ⟨res, hs, h4⟩ := opt_of h3
      split at h4
      · rename_i hrs
        rcases bind_ok h4 with ⟨_, env2, h5, h6⟩ | ⟨_, _, _, h5, _⟩
        · cases setV_ok h5
          cases pure_ok h6
          refine r1 _ y res v u F1 B H1 _ hs hsc hrs ⟨[], RepS.rescal hsc rr⟩ (V1.elim fun fp z => ⟨fp, z.1⟩) S1.fh S1.bh fun z H2 F2 fp eh ef efh hf rz hn nd => ?_
          have S2 := S1.new eh ef efh hf
          have S3 := Sta.store (i := i) (y := (.frz, res.2)) S2 n4 (RepS_frz.mpr ⟨RepS.scalar hrs rz, rfl⟩) Kp.nil
          refine q _ H2 F2 _ S3 (Stp.tgt (sl := [i]) (f1 := []) (T1.trans (Stp.new S1 eh ef efh hf)) ⟨fun j hj => stp_ne fun z => hj (by rw [z]; exact .head _), fun j hj a ha => ?_⟩ (fun j hj => by rw [List.mem_singleton.mp hj]; exact .head _) Fr.nil)
          rw [List.mem_singleton.mp hj, stp_same] at ha
          cases ha
        · cases setV_ok h5
      · cases h4
    · cases h2
  · obtain ⟨_, _, z⟩ := getV_ok h1
    cases z
end
end DI
/-! DI8h: items set. -/
namespace DI
open PySem L2
variable {F F' F1 F2 B B' H H' H1 H2 : Hp} {σ σ1 : L2.St} {env env1 env2 : Env} {fps fps' fps1 fps2 : Nat → List Addr}
section
variable {X : Cx} {g : Gam} {w : Wd} {sg : Sig} {cl : Calls} {W : WX}
/-- a thing at a place, later -/
theorem foc_any {p : Pl} {gd : Nat → Nat → Bool} {ef : List Nat} {x : SD} {v : V} (S : Sta w F B H σ env fps) (hf : Foc w gd F B H σ env fps p x v) (hr : p.root ∉ ef) (T : Stp ef F H fps F1 H1 fps1) :
    ∃ fq f1 f2, fps1 p.root = f1 ++ (fq ++ f2) ∧ RepS w F1 B H1 x.2 x.1 v fq ∧ ∀ (y z : SD), p.up gd env y = some z → ∃ v0, σ[p.root]? = some (some v0) ∧
      ∀ F' H' fq', Ex F1 F' → TK H1 H' → KO H1 H' (f1 ++ f2) → RepS w F' B H' y.2 y.1 v fq' → RepS w F' B H' z.2 z.1 v0 (f1 ++ (fq' ++ f2)) := by
  obtain ⟨f1, fq, f2, e0, r, hp⟩ := hf
  have er : fps1 p.root = fps p.root := T.sm _ hr
  have apart : ∀ b ∈ fps p.root, ∀ i ∈ ef, b ∉ fps i := fun b hb i hi hm => hr (by rw [S.sp p.root i b hb hm]; exact hi)
  have m : ∀ b, b ∈ fq → b ∈ fps p.root := fun b hb => by rw [e0]; exact List.mem_append_right _ (List.mem_append_left _ hb)
  refine ⟨fq, f1, f2, er.trans e0, T.keep S (fun b hb i hi hm => apart b (m b hb) i hi hm) r, fun y z hz => ?_⟩
  obtain ⟨v0, k1, k2⟩ := hp y z hz
  refine ⟨v0, k1, fun F' H' fq' ef' tk ko r1 => k2 F' H' fq' (ex_trans T.ff ef') (fun b xs e => tk b xs (T.tup S b xs e)) (fun b o hb e => ko b o hb (T.fr b o e (apart b ?_))) r1⟩
  rw [e0]
  rcases List.mem_append.mp hb with q | q
  · exact List.mem_append_left _ q
  · exact List.mem_append_right _ (List.mem_append_right _ q)
/-- the object at a place is rewritten -/
theorem put_any {i : Nat} {a : Addr} {o0 o' : HO} {fr fr' fpx fpr f1 f2 : List Addr} {y z r : SD} {v0 vr : V} {ef : List Nat} (T : Stp ef F H fps F1 H1 fps1) (Fx : Fr ef H fps fpx) (S1 : Sta w F1 B H1 σ env1 fps1) (e0 : fps1 i = f1 ++ ((a :: fr) ++ f2)) (ha : H1 a = some o0) (ht : notTup o0) (K1 : Kp F1 B H1 fps1 fpx)
    (hv : σ[i]? = some (some v0)) (hup : ∀ F' H' fq', Ex F1 F' → TK H1 H' → KO H1 H' (f1 ++ f2) → RepS w F' B H' y.2 y.1 (.ref a) fq' → RepS w F' B H' z.2 z.1 v0 (f1 ++ (fq' ++ f2)))
    (R : RepS w F1 B (upd H1 a o') y.2 y.1 (.ref a) (a :: fr')) (nd : (fr' ++ fpr).Nodup) (sub : ∀ b ∈ fr' ++ fpr, b ∈ fr ++ fpx) (Rr : RepS w F1 B (upd H1 a o') r.2 r.1 vr fpr) :
    ∃ fps2, Sta w F1 B (upd H1 a o') σ (env1.set i (some z)) fps2 ∧ Stp (i :: ef) F H fps F1 (upd H1 a o') fps2 ∧ RepS w F1 B (upd H1 a o') r.2 r.1 vr fpr ∧ Kp F1 B (upd H1 a o') fps2 fpr ∧ Fr (i :: ef) H fps fpr := by
  have ndI := S1.nd i
  rw [e0] at ndI
  obtain ⟨n1, n2, n3⟩ := List.nodup_append.mp ndI
  obtain ⟨n4, n5, n6⟩ := List.nodup_append.mp n2
  obtain ⟨n7, n8⟩ := List.nodup_cons.mp n4
  have inI : ∀ b, b ∈ f1 ∨ b = a ∨ b ∈ fr ∨ b ∈ f2 → b ∈ fps1 i := fun b hb => by
    rw [e0]
    rcases hb with q | q | q | q <;> simp [q]
  have aF := S1.nf i a (inI a (.inr (.inl rfl)))
  have ax : a ∉ fpx := fun q => K1.ds a q i (inI a (.inr (.inl rfl)))
  have ne : ∀ b, b ∈ fr ++ fpx → b ≠ a := fun b hb e => by
    subst e
    rcases List.mem_append.mp hb with q | q
    · exact n7 q
    · exact ax q
  have ko : ∀ {l : List Addr}, a ∉ l → KO H1 (upd H1 a o') l := fun hl b o hb e => by rw [upd_ne fun q => hl (by rw [← q]; exact hb)]; exact e
  have tk : TK H1 (upd H1 a o') := fun b xs e => by
    rw [upd_ne fun q => by rw [q, ha] at e; cases e; exact ht]
    exact e
  have up : ∀ b o, H1 b = some o → (upd H1 a o') b ≠ none := fun b o e => by
    by_cases q : b = a
    · rw [q, upd_same]; exact fun z => by cases z
    · rw [upd_ne q, e]; exact fun z => by cases z
  have af1 : a ∉ f1 := fun q => n3 a q a (by simp) rfl
  have af2 : a ∉ f2 := fun q => n6 a (by simp) a q rfl
  have afr' : ∀ b ∈ fr' ++ fpr, b ≠ a := fun b hb => ne b (sub b hb)
  have fh : Ex F1 (upd H1 a o') := fun b o e => by
    rw [upd_ne fun q => by rw [q, aF.1] at e; cases e]
    exact S1.fh b o e
  have bh : Ex B (upd H1 a o') := fun b o e => by
    rw [upd_ne fun q => by rw [q, aF.2] at e; cases e]
    exact S1.bh b o e
  have Rr2 := Rr
  have Z := hup F1 (upd H1 a o') (a :: fr') (ex_refl F1) tk (ko fun q => (List.mem_append.mp q).elim af1 af2) R
  obtain ⟨d1, d2, d3⟩ := List.nodup_append.mp nd
  -- where they come from
  have src : ∀ b ∈ fr' ++ fpr, (b ∈ fps1 i ∧ b ∈ fr) ∨ b ∈ fpx := fun b hb => by
    rcases List.mem_append.mp (sub b hb) with q | q
    · exact .inl ⟨inI b (.inr (.inr (.inl q))), q⟩
    · exact .inr q
  have far : ∀ b ∈ fr' ++ fpr, b ∉ f1 ∧ b ∉ f2 := fun b hb => by
    rcases src b hb with ⟨_, q⟩ | q
    · exact ⟨fun z => n3 b z b (by simp [q]) rfl, fun z => n6 b (by simp [q]) b z rfl⟩
    · exact ⟨fun z => K1.ds b q i (inI b (.inl z)), fun z => K1.ds b q i (inI b (.inr (.inr (.inr z))))⟩
  have oth : ∀ b ∈ fr' ++ fpr, ∀ j, j ≠ i → b ∉ fps1 j := fun b hb j hj hm => by
    rcases src b hb with ⟨q, _⟩ | q
    · exact hj (S1.sp j i b hm q)
    · exact K1.ds b q j hm
  have no : ∀ b ∈ fr' ++ fpr, F1 b = none ∧ B b = none := fun b hb => by
    rcases src b hb with ⟨q, _⟩ | q
    · exact S1.nf i b q
    · exact K1.nf b q
  have ndN : (f1 ++ ((a :: fr') ++ f2)).Nodup := by
    refine List.nodup_append.mpr ⟨n1, List.nodup_append.mpr ⟨List.nodup_cons.mpr ⟨fun q => afr' a (List.mem_append_left _ q) rfl, d1⟩, n5, fun b hb c hc e => ?_⟩, fun b hb c hc e => ?_⟩
    · subst e
      rcases List.mem_cons.mp hb with q | q
      · exact af2 (by rw [← q]; exact hc)
      · exact (far b (List.mem_append_left _ q)).2 hc
    · subst e
      rcases List.mem_append.mp hc with q | q
      · rcases List.mem_cons.mp q with q | q
        · exact af1 (by rw [← q]; exact hb)
        · exact (far b (List.mem_append_left _ q)).1 hb
      · exact n3 b hb b (by simp [q]) rfl
  have back : ∀ b ∈ fps1 i, H b = none ∨ ∃ j ∈ i :: ef, b ∈ fps j := fun b hb => by
    by_cases hi : i ∈ ef
    · rcases T.nw i hi b hb with q | ⟨k, hk, q⟩
      · exact .inl q
      · exact .inr ⟨k, .tail i hk, q⟩
    · rw [T.sm i hi] at hb
      exact .inr ⟨i, .head _, hb⟩
  have inN : ∀ b ∈ f1 ++ ((a :: fr') ++ f2), b ∈ fps1 i ∨ b ∈ fr' := fun b hb => by
    rcases List.mem_append.mp hb with q | q
    · exact .inl (inI b (.inl q))
    · rcases List.mem_append.mp q with q | q
      · rcases List.mem_cons.mp q with q | q
        · exact .inl (inI b (.inr (.inl q)))
        · exact .inr q
      · exact .inl (inI b (.inr (.inr (.inr q))))
  refine ⟨stp fps1 i (f1 ++ ((a :: fr') ++ f2)), ?_, ?_, Rr2, ?_⟩
  · refine Sta.put S1 hv (ex_refl F1) fh bh tk (fun j hj => ko fun q => hj (S1.sp j i a q (inI a (.inr (.inl rfl))))) (fun j _ b hb => (S1.nf j b hb).1) Z ndN (fun b hb => ?_) fun b hb j hj => ?_
    · rcases inN b hb with q | q
      · exact S1.nf i b q
      · exact no b (List.mem_append_left _ q)
    · rcases inN b hb with q | q
      · exact fun hm => hj (S1.sp j i b hm q)
      · exact oth b (List.mem_append_left _ q) j hj
  · refine ⟨T.ff, fh, fun b o e => (T.weak (fun j hj => .tail i hj)).fn b o e, fun b o e hn => ?_, fun b e => ?_, fun j hj => ?_, fun j hj b hb => ?_⟩
    · have e1 := T.fr b o e fun j hj => hn j (.tail i hj)
      rw [upd_ne fun q => ?_]
      · exact e1
      · subst q
        rcases back b (inI b (.inr (.inl rfl))) with q | ⟨j, hj, q⟩
        · rw [e] at q
          cases q
        · exact hn j hj q
    · have e1 := T.al b e
      cases q : H1 b with
      | none => exact absurd q e1
      | some o => exact up b o q
    · rw [stp_ne fun q => hj (by rw [q]; exact .head _)]
      exact T.sm j fun q => hj (.tail i q)
    · by_cases hji : j = i
      · subst hji
        rw [stp_same] at hb
        rcases inN b hb with q | q
        · exact back b q
        · rcases src b (List.mem_append_left _ q) with ⟨q2, _⟩ | q2
          · exact back b q2
          · exact Fx.weak (fun j hj => .tail _ hj) b q2
      · rw [stp_ne hji] at hb
        have hj' : j ∈ ef := (List.mem_cons.mp hj).resolve_left hji
        rcases T.nw j hj' b hb with q | ⟨k, hk, q⟩
        · exact .inl q
        · exact .inr ⟨k, .tail i hk, q⟩
  · refine ⟨⟨d2, fun b hb => no b (List.mem_append_right _ hb), RepS.held _ _ _ _ Rr2, fun b hb j hj => ?_⟩, fun b hb => ?_⟩
    rotate_left
    · rcases src b (List.mem_append_right _ hb) with ⟨q2, _⟩ | q2
      · exact back b q2
      · exact Fx.weak (fun j hj => .tail _ hj) b q2
    by_cases hji : j = i
    · subst hji
      rw [stp_same] at hj
      rcases List.mem_append.mp hj with q | q
      · exact (far b (List.mem_append_right _ hb)).1 q
      · rcases List.mem_append.mp q with q | q
        · rcases List.mem_cons.mp q with q | q
          · exact afr' b (List.mem_append_right _ hb) q
          · exact d3 b q b hb rfl
        · exact (far b (List.mem_append_right _ hb)).2 q
    · rw [stp_ne hji] at hj
      exact oth b (List.mem_append_right _ hb) j hji hj
theorem RepSs.setv {t : Sh} : ∀ {ds : List D} {us : List V} {fp : List Addr} {j : Nat} {d' : D} {u : V} {fx : List Addr}, RepSs w F B H ds t us fp → j < ds.length → RepS w F B H d' t u fx → ∃ g1 gq g2, fp = g1 ++ (gq ++ g2) ∧ RepSs w F B H (ds.set j d') t (us.set j u) (g1 ++ (fx ++ g2))
  | [], _, _, _, _, _, _, _, hj, _ => by simp at hj
  | d :: ds, _, _, 0, d', u, fx, h, _, r => by
    obtain ⟨v, r', g1, g2, rfl, rfl, e2, e3⟩ := h
    exact ⟨[], g1, g2, rfl, u, r', fx, g2, rfl, rfl, r, e3⟩
  | d :: ds, _, _, j + 1, d', u, fx, h, hj, r => by
    obtain ⟨v, r', g1, g2, rfl, rfl, e2, e3⟩ := h
    obtain ⟨f1, fq, f2, rfl, q⟩ := RepSs.setv e3 (by simpa using hj) r
    exact ⟨g1 ++ f1, fq, f2, by simp, v, r'.set j u, g1, f1 ++ (fx ++ f2), rfl, by simp, e2, q⟩
theorem putK_nil {κ : Type} [DecidableEq κ] {k : κ} {v : V} : putK ([] : List (κ × V)) k v = [(k, v)] := rfl
theorem RepSk.app {s : Sh} : ∀ {as bs : List (Key × D)} {us vs : List (Key × V)} {f1 f2 : List Addr}, RepSk w F B H as s us f1 → RepSk w F B H bs s vs f2 → RepSk w F B H (as ++ bs) s (us ++ vs) (f1 ++ f2)
  | [], _, _, _, _, _, h, k => by
    obtain ⟨rfl, rfl⟩ := h
    exact k
  | (j, d) :: as, _, _, _, _, _, h, k => by
    obtain ⟨v, r, g1, g2, rfl, rfl, e2, e3⟩ := h
    exact ⟨v, r ++ _, g1, g2 ++ _, rfl, by simp, e2, RepSk.app e3 k⟩
theorem putA_new {κ : Type} [DecidableEq κ] {k : κ} {v : D} : ∀ {kvs : List (κ × D)}, assoc k kvs = none → putA k v kvs = kvs ++ [(k, v)]
  | [], _ => rfl
  | (j, d) :: r, h => by
    by_cases c : j = k
    · rw [assoc, if_pos c] at h
      cases h
    · rw [assoc, if_neg c] at h
      rw [putA, if_neg c, putA_new h]
      rfl
/-- the keys of a tracked dict are apart -/
theorem kv_keys {κ : Type} : ∀ {kvs : List (κ × V)} {vs : List (κ × Value)}, L2.KV kvs vs → kvs.map (·.1) = vs.map (·.1)
  | _, _, .nil => rfl
  | _, _, .cons r t => by
    rw [List.map_cons, List.map_cons, kv_keys t, r.1]
theorem kt_keys {H : Hp} : ∀ {kvs : List (List Key × V)} {xs : List (List Key × Addr × Value)}, Paired (fun (p : List Key × V) (q : List Key × Addr × Value) => p.1 = q.1 ∧ H q.2.1 = some (.tup (p.1.map kV)) ∧ RelV p.2 q.2.2) kvs xs → kvs.map (·.1) = xs.map (·.1)
  | _, _, .nil => rfl
  | _, _, .cons r t => by
    rw [List.map_cons, List.map_cons, kt_keys t, r.1]
theorem keysK {pins : List (Addr × Obj)} {s : Shared} {a : Addr} {kvs : List (Key × V)} (I : L2.Inv X pins σ H s) (h : H a = some (.dK kvs)) : (kvs.map (·.1)).Nodup := by
  obtain ⟨_, _, vs, rel, o, es, ep, _, _, _, _, _, nd⟩ := I.hok a _ h
  rw [kv_keys rel]
  exact nd
theorem keysT {pins : List (Addr × Obj)} {s : Shared} {a : Addr} {kvs : List (List Key × V)} (I : L2.Inv X pins σ H s) (h : H a = some (.dT kvs)) : (kvs.map (·.1)).Nodup := by
  obtain ⟨_, _, xs, rel, o, es, ep, _, _, _, _, nd⟩ := I.hok a _ h
  rw [kt_keys rel]
  exact nd
/-- an item set, a list or a dict -/
def rSetA : TSet := fun o i v H Q => rSetL o i v H Q ∨ (∃ a kvs k, o = .ref a ∧ H a = some (.dK kvs) ∧ i = kV k ∧ kvs.length < sizeLine ∧ ((kvs.map (·.1)).Nodup → Q (upd H a (.dK (putK kvs k v))))) ∨
  ∃ a kvs k b, o = .ref a ∧ H a = some (.dT kvs) ∧ i = .ref b ∧ H b = some (.tup (k.map kV)) ∧ kvs.length < sizeLine ∧ ((kvs.map (·.1)).Nodup → Q (upd H a (.dT (putK kvs k v))))
theorem set_any (hu : X.A.units + 1 < cLine) : PSet X rSetA := by
  intro pins s σ H o i v ov iv u Q I ro ri rv h
  rcases h with h | ⟨a, kvs, k, rfl, ha, rfl, hz, q⟩ | ⟨a, kvs, k, b, rfl, ha, rfl, hb, hz, q⟩
  · exact set_list pins s σ H o i v ov iv u Q I ro ri rv h
  · exact set_dict hu pins s σ H _ _ v ov iv u Q I ro ri rv ⟨a, _, rfl, .inl ⟨kvs, k, ha, rfl, hz, rfl⟩, q (keysK I ha)⟩
  · exact set_dict hu pins s σ H _ _ v ov iv u Q I ro ri rv ⟨a, _, rfl, .inr ⟨kvs, k, b, ha, rfl, hb, hz, rfl⟩, q (keysT I ha)⟩
/-- the footprint behind a store -/
def PutFp (fp fx fp' : List Addr) : Prop := (∀ b ∈ fp', b ∈ fp ++ fx) ∧ ((fp ++ fx).Nodup → fp'.Nodup)
theorem PutFp.hit {g1 gq g2 fx : List Addr} : PutFp (g1 ++ (gq ++ g2)) fx (g1 ++ (fx ++ g2)) := by
  refine ⟨fun b hb => ?_, fun n => ?_⟩
  · simp only [List.mem_append] at hb ⊢
    rcases hb with h | h | h
    · exact .inl (.inl h)
    · exact .inr h
    · exact .inl (.inr (.inr h))
  · have p : (g1 ++ (gq ++ g2) ++ fx).Perm (gq ++ (g1 ++ (fx ++ g2))) := by
      refine List.Perm.trans (List.Perm.append_right fx (?_ : (g1 ++ (gq ++ g2)).Perm (gq ++ (g1 ++ g2)))) ?_
      · rw [← List.append_assoc, ← List.append_assoc]
        exact List.perm_append_comm.append_right g2
      · simp only [List.append_assoc]
        exact (List.perm_append_comm.append_left g1).append_left gq
    exact (List.nodup_append.mp (p.nodup_iff.mp n)).2.1
theorem PutFp.cons {g fp fx fp' : List Addr} (h : PutFp fp fx fp') : PutFp (g ++ fp) fx (g ++ fp') := by
  refine ⟨fun b hb => ?_, fun n => ?_⟩
  · rw [List.append_assoc]
    rcases List.mem_append.mp hb with z | z
    · exact List.mem_append_left _ z
    · exact List.mem_append_right _ (h.1 b z)
  · rw [List.append_assoc] at n
    obtain ⟨n1, n2, n3⟩ := List.nodup_append.mp n
    exact List.nodup_append.mpr ⟨n1, h.2 n2, fun a ha b hb => n3 a ha b (h.1 b hb)⟩
theorem RepSk.put {k : Key} {s : Sh} {d' : D} {u : V} {fx : List Addr} (r : RepS w F B H d' s u fx) : ∀ {ds : List (Key × D)} {ws : List (Key × V)} {fp : List Addr}, RepSk w F B H ds s ws fp → (ws.map (·.1)).Nodup → ∃ fp', RepSk w F B H (putA k d' ds) s (putK ws k u) fp' ∧ PutFp fp fx fp'
  | [], _, _, h, _ => by
    obtain ⟨rfl, rfl⟩ := h
    exact ⟨fx, ⟨u, [], fx, [], rfl, by simp, r, rfl, rfl⟩, fun b hb => by simpa using hb, fun n => by simpa using n⟩
  | (j, d) :: ds, _, _, h, n => by
    obtain ⟨v, q, g1, g2, rfl, rfl, e2, e3⟩ := h
    rw [List.map_cons, List.nodup_cons] at n
    by_cases c : j = k
    · subst c
      rw [putA, if_pos rfl, putK_hit n.1]
      exact ⟨fx ++ g2, ⟨u, q, fx, g2, rfl, rfl, r, e3⟩, PutFp.hit (g1 := [])⟩
    · rw [putA, if_neg c, putK_miss c]
      obtain ⟨fp', q1, q2⟩ := RepSk.put r e3 n.2
      exact ⟨g1 ++ fp', ⟨v, _, g1, fp', rfl, rfl, e2, q1⟩, q2.cons⟩
theorem RepSt.put {k : List Key} {s : Sh} {d' : D} {u : V} {fx : List Addr} (r : RepS w F B H d' s u fx) : ∀ {ds : List (List Key × D)} {ws : List (List Key × V)} {fp : List Addr}, RepSt w F B H ds s ws fp → (ws.map (·.1)).Nodup → ∃ fp', RepSt w F B H (putA k d' ds) s (putK ws k u) fp' ∧ PutFp fp fx fp'
  | [], _, _, h, _ => by
    obtain ⟨rfl, rfl⟩ := h
    exact ⟨fx, ⟨u, [], fx, [], rfl, by simp, r, rfl, rfl⟩, fun b hb => by simpa using hb, fun n => by simpa using n⟩
  | (j, d) :: ds, _, _, h, n => by
    obtain ⟨v, q, g1, g2, rfl, rfl, e2, e3⟩ := h
    rw [List.map_cons, List.nodup_cons] at n
    by_cases c : j = k
    · subst c
      rw [putA, if_pos rfl, putK_hit n.1]
      exact ⟨fx ++ g2, ⟨u, q, fx, g2, rfl, rfl, r, e3⟩, PutFp.hit (g1 := [])⟩
    · rw [putA, if_neg c, putK_miss c]
      obtain ⟨fp', q1, q2⟩ := RepSt.put r e3 n.2
      exact ⟨g1 ++ fp', ⟨v, _, g1, fp', rfl, rfl, e2, q1⟩, q2.cons⟩
theorem RepSk.length' {t : Sh} : ∀ {kvs : List (Key × D)} {ws : List (Key × V)} {fp : List Addr}, RepSk w F B H kvs t ws fp → ws.length = kvs.length
  | [], _, _, h => by rw [h.1]; rfl
  | (j, d) :: ds, _, _, h => by
    obtain ⟨v, r, f1, f2, rfl, rfl, e2, e3⟩ := h
    rw [List.length_cons, List.length_cons, RepSk.length' e3]
theorem RepSt.length' {t : Sh} : ∀ {kvs : List (List Key × D)} {ws : List (List Key × V)} {fp : List Addr}, RepSt w F B H kvs t ws fp → ws.length = kvs.length
  | [], _, _, h => by rw [h.1]; rfl
  | (j, d) :: ds, _, _, h => by
    obtain ⟨v, r, f1, f2, rfl, rfl, e2, e3⟩ := h
    rw [List.length_cons, List.length_cons, RepSt.length' e3]
theorem set_ok {s : Sh} {d k xd : D} {z : SD} {v u y : V} {fq fx : List Addr} (h : itemSet (s, d) k xd = some z) (r : RepS w F B H d s v fq) (rx : RepS w F B H xd s.kid u fx) (ry : Rep w H k y) (hn : ∀ a fr, fq = a :: fr → a ∉ fr ++ fx) :
    ∃ a o0 fr, v = .ref a ∧ fq = a :: fr ∧ H a = some o0 ∧ notTup o0 ∧ ∀ Q : Hp → Prop, (∀ o' fr', RepS w F B (upd H a o') z.2 z.1 (.ref a) (a :: fr') → PutFp fr fx fr' → Q (upd H a o')) → rSetA v y u H Q := by
  have up : ∀ {a : Addr} {o0 o' : HO} {l : List Addr}, H a = some o0 → notTup o0 → a ∉ l → TK H (upd H a o') ∧ KO H (upd H a o') l := fun {a o0 o' l} h1 h2 h3 => ⟨fun b xs e => by
    rw [upd_ne fun q => by rw [q, h1] at e; cases e; exact h2]
    exact e, fun b o hb e => by
    rw [upd_ne fun q => h3 (by rw [← q]; exact hb)]
    exact e⟩
  cases s with
  | lst t =>
    cases d with
    | lst ds =>
      cases k with
      | int i =>
        obtain ⟨j, hj, rfl⟩ := Option.map_eq_some_iff.mp (show (ixN ds.length i).map (fun j => (Sh.lst t, D.lst (ds.set j xd))) = some z from h)
        obtain ⟨a, us, fr, rfl, rfl, e3, e4⟩ := r
        have hlt := (L2.ixN_seq hj).2.1
        obtain ⟨g1, gq, g2, rfl, q⟩ := RepSs.setv e4 hlt rx
        have na := hn a _ rfl
        refine ⟨a, .lst us, _, rfl, rfl, e3, trivial, fun Q hQ => .inl ⟨a, us, i, j, rfl, ry, e3, by rw [RepSs.length e4]; exact hj, hQ _ (g1 ++ (fx ++ g2)) ⟨a, us.set j u, _, rfl, rfl, upd_same, ?_⟩ PutFp.hit⟩⟩
        obtain ⟨tk, ko⟩ := up (o' := .lst (us.set j u)) (l := g1 ++ (fx ++ g2)) e3 trivial fun hm => na (by
          simp only [List.mem_append] at hm ⊢
          rcases hm with h | h | h
          · exact .inl (.inl h)
          · exact .inr h
          · exact .inl (.inr (.inr h)))
        exact RepSs.mono (ex_refl F) (ex_refl B) tk _ t _ _ ko q
      | _ => cases h
    | _ => exact False.elim r
  | dic t =>
    cases d with
    | dic kvs =>
      obtain ⟨hz, h⟩ := iteP_some (show (if kvs.length < sizeLine then (keyOf k).map (fun k => (Sh.dic t, D.dic (putA k xd kvs))) else none) = some z from h)
      obtain ⟨key, hk, rfl⟩ := Option.map_eq_some_iff.mp h
      obtain ⟨a, ws, fr, rfl, rfl, e3, e4⟩ := r
      have na := hn a _ rfl
      have hl : ws.length = kvs.length := (RepSk.length' e4)
      refine ⟨a, .dK ws, _, rfl, rfl, e3, trivial, fun Q hQ => .inr (.inl ⟨a, ws, key, rfl, e3, keyOf_v ry hk, by rw [hl]; exact hz, fun nd => ?_⟩)⟩
      obtain ⟨fp', q1, q2⟩ := RepSk.put rx e4 nd
      refine hQ _ fp' ⟨a, _, _, rfl, rfl, upd_same, ?_⟩ q2
      obtain ⟨tk, ko⟩ := up (o' := .dK (putK ws key u)) (l := fp') e3 trivial fun hm => na (q2.1 a hm)
      exact RepSk.mono (ex_refl F) (ex_refl B) tk _ t _ _ ko q1
    | dit kvs =>
      obtain ⟨hz, h⟩ := iteP_some (show (if kvs.length < sizeLine then (tkeyOf k).map (fun k => (Sh.dic t, D.dit (putA k xd kvs))) else none) = some z from h)
      obtain ⟨key, hk, rfl⟩ := Option.map_eq_some_iff.mp h
      obtain ⟨a, ws, fr, rfl, rfl, e3, e4⟩ := r
      have na := hn a _ rfl
      have hl : ws.length = kvs.length := (RepSt.length' e4)
      obtain ⟨b, b1, b2⟩ := tkeyOf_v ry hk
      refine ⟨a, .dT ws, _, rfl, rfl, e3, trivial, fun Q hQ => .inr (.inr ⟨a, ws, key, b, rfl, e3, b1, b2, by rw [hl]; exact hz, fun nd => ?_⟩)⟩
      obtain ⟨fp', q1, q2⟩ := RepSt.put rx e4 nd
      refine hQ _ fp' ⟨a, _, _, rfl, rfl, upd_same, ?_⟩ q2
      obtain ⟨tk, ko⟩ := up (o' := .dT (putK ws key u)) (l := fp') e3 trivial fun hm => na (q2.1 a hm)
      exact RepSt.mono (ex_refl F) (ex_refl B) tk _ t _ _ ko q1
    | _ => exact False.elim r
  | _ => cases d <;> cases h
theorem bindO {α β : Type} {o : Option α} {f : α → Option β} {r : β} (h : o.bind f = some r) : ∃ a, o = some a ∧ f a = some r := Option.bind_eq_some_iff.mp h
theorem s_seti (C : Ctx X g w sg W) {p : Pl} {k e : E} {l j x : Expr} {p1 pos : Pos} (hs : noSlice j = true) (hp : matchPl g p l = true) (wf : (!(effE sg k).contains p.root) = true) (hk : PE X j (tE w sg cl W k)) (he : PE X x (tE w sg cl W e)) :
    PS X (.Assign [.Subscript l j p1] x pos) (tS w sg cl W (.seti p k e)) := by
  have hr : p.root ∉ effE sg k := fun z => by
    rw [List.contains_iff_mem.mpr z] at wf
    cases wf
  have ha : ∀ v, assign (.Subscript l j p1) X.env v = (do
      let ov ← holding [v] (eval l X.env)
      let iv ← holding [v, ov] (eval j X.env)
      standAt p1
      holding [v, ov, iv] (setItem ov iv v)
      release [v, ov, iv] []) := fun v => by
    cases j <;> first | rfl | cases hs
  refine PS.imp (ps_asg he (pg_sub (pe_plF C hp) hk (set_any (by have := C.un; omega)) ha) (swaps_at (t := .Subscript l j p1) rfl pos.line X.env) (stores_no rfl _) rfl) fun D σ H ⟨env, F, B, fps, r, S, hst, q⟩ => ?_
  have m1 : ∀ i ∈ effE sg e, i ∈ effS sg (.seti p k e) := mem_l
  have m2 : ∀ i ∈ effE sg k, i ∈ effS sg (.seti p k e) := fun i hi => mem_r i (.tail _ hi)
  have m3 : p.root ∈ effS sg (.seti p k e) := mem_r _ (.head _)
  rcases bind_ok (show M.bind (ev sg cl e) _ env = some r from hst) with ⟨x0, env1, h1, h2⟩ | ⟨c, fs, env1, h1, rfl⟩
  · refine ⟨env, F, B, fps, _, S, h1, fun v H1 F1 fps1 S1 T1 V1 => ?_⟩
    obtain ⟨y, hy, h2⟩ := bindO h2
    obtain ⟨x', hx, h2⟩ := bindO h2
    obtain ⟨F2, fx, S2, T2, R2, K2, Fr2⟩ := keep_ok (kpS _) hx S1 T1 V1
    refine ⟨env1, F2, B, fps1, y, S2, hy, fun ov hf => ?_⟩
    rcases bind_ok h2 with ⟨kd, env2, h3, h4⟩ | ⟨c, fs, env2, h3, rfl⟩
    · refine ⟨env1, F2, B, fps1, _, S2, h3, fun iv H3 F3 fps3 S3 T3 V3 => ?_⟩
      obtain ⟨hsh, h4⟩ := ite_some h4
      obtain ⟨z, hz, h4⟩ := bindO h4
      obtain ⟨z', hz', rfl⟩ := Option.map_eq_some_iff.mp h4
      have esh := eqSh_ok _ _ hsh
      obtain ⟨fq, f1, f2, e0, R3, hup⟩ := foc_any S2 hf hr T3
      have Rx := T3.keep S2 (fun a ha i _ => K2.ds a ha i) R2
      have Kx := K2.step T3
      have Ri : Rep w H3 kd.2 iv := V3.elim fun fp zz => RepS.all S3.fh S3.bh _ _ _ _ zz.1
      rw [esh] at Rx
      obtain ⟨ys, yd⟩ := y
      have ndr := S3.nd p.root
      rw [e0] at ndr
      have hna : ∀ a fr, fq = a :: fr → a ∉ fr ++ fx := fun a fr ef hm => by
        subst ef
        obtain ⟨_, n2, _⟩ := List.nodup_append.mp ndr
        obtain ⟨n4, _, _⟩ := List.nodup_append.mp n2
        rcases List.mem_append.mp hm with zz | zz
        · exact (List.nodup_cons.mp n4).1 zz
        · exact Kx.ds a zz p.root (by rw [e0]; simp)
      obtain ⟨a, o0, fr, rfl, rfl, ha0, hnt, hgo⟩ := set_ok hz R3 Rx Ri hna
      refine hgo _ fun o' fr' RR pf => ?_
      obtain ⟨v0, u1, u2⟩ := hup z z' hz'
      have T : Stp (effE sg e ++ effE sg k) F H fps F3 H3 fps3 := (T2.weak mem_l).trans (T3.weak mem_r)
      have ndAll : (fr ++ fx).Nodup := by
        obtain ⟨_, n2, _⟩ := List.nodup_append.mp ndr
        obtain ⟨n4, _, _⟩ := List.nodup_append.mp n2
        refine List.nodup_append.mpr ⟨(List.nodup_cons.mp n4).2, Kx.nd, fun b hb c hc ee => ?_⟩
        subst ee
        exact Kx.ds b hc p.root (by rw [e0]; simp [hb])
      obtain ⟨fps4, p1, p2, _, _, _⟩ := put_any (r := (Sh.frz, DI.D.non)) (vr := V.non) (fpr := []) T (Fr2.weak mem_l) S3 e0 ha0 hnt Kx u1 u2 RR (by rw [List.append_nil]; exact pf.2 ndAll) (fun b hb => pf.1 b (by simpa using hb)) (RepS_frz.mpr ⟨rfl, rfl⟩)
      refine q σ _ F3 fps4 p1 (p2.weak fun i hi => ?_)
      rcases List.mem_cons.mp hi with zz | zz
      · rw [zz]; exact m3
      · rcases List.mem_append.mp zz with zz | zz
        · exact m1 i zz
        · exact m2 i zz
    · exact ⟨env1, F2, B, fps1, _, S2, h3, fun cls dx H3 F3 fps3 S3 T3 x3 => q cls dx σ H3 F3 fps3 S3 ((T2.weak m1).trans (T3.weak m2)) x3⟩
  · exact ⟨env, F, B, fps, _, S, h1, fun cls dx H1 F1 fps1 S1 T1 x1 => q cls dx σ H1 F1 fps1 S1 (T1.weak m1) x1⟩
end
end DI
/-! DI8i: the methods that change lists, as expressions. -/
namespace DI
open PySem L2
variable {F F' F1 F2 B B' H H' H1 H2 : Hp} {σ σ1 : L2.St} {env env1 env2 : Env} {fps fps' fps1 fps2 : Nat → List Addr}
section
variable {X : Cx} {g : Gam} {w : Wd} {sg : Sig} {cl : Calls} {W : WX}
theorem pl_base {p : Pl} {l : Expr} (h : matchPl g p l = true) : baseOk l = true := by
  cases p <;> cases l <;> first | rfl | cases h
/-- which method, which rule -/
theorem mu_ok {m : Mu} {n : Nat} {nm : Str} (h : muMt m n = some nm) (hm : contOk m (.lst []) = true) (hx : m ≠ .popAt) : ∃ id R, Slot "list" nm id ∧ typeOf (.builtin id) = pure (.type "method_descriptor") ∧ MtR X id R ∧ MutL w m R := by
  unfold muMt at h
  split at h <;> first | (cases h; done) | skip
  all_goals first | (cases hm; done) | (exact (hx rfl).elim) | skip
  all_goals cases h
  · exact ⟨_, _, PySem.F.slot_list_append, PySem.F.type_list_append, mt_append, ml_append⟩
  · exact ⟨_, _, PySem.F.slot_list_insert, PySem.F.type_list_insert, mt_insert, ml_insert⟩
  · exact ⟨_, _, PySem.F.slot_list_extend, PySem.F.type_list_extend, mt_extend, ml_extend⟩
  · exact ⟨_, _, PySem.F.slot_list_pop, PySem.F.type_list_pop, mt_pop, ml_pop⟩
  · exact ⟨_, _, PySem.F.slot_list_reverse, PySem.F.type_list_reverse, mt_reverse, ml_reverse⟩
  · exact ⟨_, _, PySem.F.slot_list_clear, PySem.F.type_list_clear, mt_clear, ml_clear⟩
theorem c_mut (C : Ctx X g w sg W) {m : Mu} {p : Pl} {as : Es} {l : Expr} {nm : Str} {args : List Expr} {apos pos : Pos} (hm : muMt m as.length = some nm) (hc : contOk m (.lst []) = true) (hx : m ≠ .popAt) (hl : (apos.endLine == pos.line) = true) (hn : args.length < 29) (wf : (!(effEs sg as).contains p.root) = true)
    (hp : matchPl g p l = true) (ha : ∀ kp, KpG kp → PA X args (tG w sg cl W kp as)) (hlen : args.length = as.length) (hs : args.all notStar = true) : PE X (.Call (.Attribute l nm apos) args [] pos) (tE w sg cl W (.mut m p as)) := by
  obtain ⟨id, R, h1, h2, h3, h4⟩ := mu_ok (X := X) (w := w) hm hc hx
  have hb := base_ok (pl_base hp) nm X.env
  cases args with
  | nil =>
    have e0 : as = .nil := by cases as <;> first | rfl | cases hlen
    subst e0
    refine PE.imp (pe_bm0 PySem.F.plainAttrs_list h1 h2 h3 (pe_plF C hp) hb hl) fun σ H Q q => ?_
    obtain ⟨env, F, B, fps, x, S, hx, k⟩ := mut_go m h4 wf q
    rw [C.K]
    refine ⟨env, F, B, fps, x, S, hx, fun v hf => ?_⟩
    obtain ⟨k1, kp, _, k2⟩ := k v hf
    exact ⟨k1, tG_nil k2⟩
  | cons e es =>
    obtain ⟨n1, n2⟩ := and2 (show (notStar e && es.all notStar) = true from hs)
    have few : ((backTo pos (starEach (e :: es) X.env)).all (fun x => !x.1) && (backToKw pos (keywordEach [] X.env)).all (fun x => x.1.isSome) && decide ((e :: es).length + ([] : List Keyword).length + (if ([] : List Keyword).isEmpty then 0 else 1) < 30)) = true := by
      rw [star_all' hs]
      show (true && true && decide ((e :: es).length + 0 + 0 < 30)) = true
      rw [decide_eq_true (show (e :: es).length + 0 + 0 < 30 by omega)]
      rfl
    refine PE.imp (pe_bm PySem.F.plainAttrs_list h1 h2 h3 (pe_plF C hp) (pa_GE ha) hb few hl (star_ne n1 _ _) (star_all n2 _ _)) fun σ H Q q => ?_
    rw [C.K]
    exact mut_go m h4 wf q
end
end DI
/-! DI8k: op= on items (draft). -/
namespace DI
open PySem L2
variable {F F' F1 F2 B B' H H' H1 H2 : Hp} {σ σ1 : L2.St} {env env1 env2 : Env} {fps fps' fps1 fps2 : Nat → List Addr}
section
variable {X : Cx} {g : Gam} {w : Wd} {sg : Sig} {cl : Calls} {W : WX}
theorem get_lst : PGet X (rIxL X.K) := by
  intro pins s σ H o i ov iv Q I ro ri h
  obtain ⟨p, xs, j, z, rfl, rfl, hq, he, q⟩ := h
  cases ro
  obtain ⟨t, rfl⟩ := ri
  obtain ⟨its, r, pl, hz⟩ := I.list hq
  obtain ⟨n, h1, h2, h3, h4, h5⟩ := atI_get he
  obtain ⟨u, eu, ru⟩ := r.get h2
  have hl := r.length
  have hn := line63
  by_cases h0 : 0 ≤ j
  · have hj : j.toNat = n := by
      rw [seqIndex_of h0 h5] at h1
      exact Option.some.inj h1
    exact PySem.wpAny_getItem_list pl.isList h0 (by omega) (by rw [hj]; simpa using eu) ⟨z, H, I, ru, q⟩
  · have hj : (j + (its.toArray.size : Int)).toNat = n := by
      rw [seqIndex_neg (by omega) h4] at h1
      rw [List.size_toArray, ← hl]
      exact Option.some.inj h1
    exact wpAny_getItem_list_neg pl.isList (by omega) (by rw [List.size_toArray] <;> omega) (by omega) (by rw [hj]; simpa using eu) ⟨z, H, I, ru, q⟩
theorem get_dic (hu : X.A.units + 1 < cLine) : PGet X rIxDD := by
  intro pins s σ H o i ov iv Q I ro ri h
  obtain ⟨a, v0, rfl, gg, q⟩ := h
  obtain rfl : ov = Value.ref a := ro
  exact d_getItem hu I gg ri fun w' s3 I3 rw' => ⟨v0, H, I3, rw', q⟩
theorem get_any (hu : X.A.units + 1 < cLine) : PGet X (fun o i H Q => rIxL X.K o i H Q ∨ rIxDD o i H Q) := by
  intro pins s σ H o i ov iv Q I ro ri h
  exact h.elim (get_lst pins s σ H o i ov iv Q I ro ri) (get_dic hu pins s σ H o i ov iv Q I ro ri)
theorem ite_app {β : Type} {c : Bool} {a : M β} {r : Out β} (h : (if c = true then a else M.stuck) env = some r) : c = true ∧ a env = some r := by
  cases c with
  | true => exact ⟨rfl, h⟩
  | false => cases h
theorem own_item {s : Sh} {d k : D} {it : SD} {v : V} {fp : List Addr} (hc : s.isC = true) (r : RepS w F B H d s v fp) (he : itemOf (s, d) k = some it) : ∃ u fq, RepS w F B H it.2 it.1 u fq ∧ ∀ y Q, Rep w H k y → Q u H → rIxL w.K v y H Q ∨ rIxDD v y H Q := by
  cases s with
  | lst t =>
    cases d with
    | lst ds =>
      cases k with
      | int i =>
        obtain ⟨d', q1, rfl⟩ := Option.map_eq_some_iff.mp (show (atD ds i).map (fun d => (t, d)) = some it from he)
        obtain ⟨a, vs, fq, e1, rfl, e3, e4⟩ := r
        obtain ⟨j, p1, p2⟩ := atI_len (RepSs.length e4) q1
        obtain ⟨u, gq, p0, p3, p4⟩ := e4.get p1
        exact ⟨u, gq, p4, fun y Q hy q => .inl ⟨a, vs, i, u, e1, hy, SqL.of e3, p2.trans p3, q⟩⟩
      | _ => cases he
    | _ => exact False.elim r
  | dic t =>
    cases d with
    | dic kvs =>
      obtain ⟨d', q1, rfl⟩ := Option.map_eq_some_iff.mp (show ((keyOf k).bind fun k => assoc k kvs).map (fun d => (t, d)) = some it from he)
      obtain ⟨key, q3, q4⟩ := Option.bind_eq_some_iff.mp q1
      obtain ⟨a, ws, fq, e1, rfl, e3, e4⟩ := r
      obtain ⟨u, gq, p0, p1, p2⟩ := assoc_Sk e4 _ q4
      exact ⟨u, gq, p2, fun y Q hy q => .inr ⟨a, u, e1, .inl ⟨ws, key, Rd.of e3, keyOf_v hy q3, p1.symm⟩, q⟩⟩
    | dit kvs =>
      obtain ⟨d', q1, rfl⟩ := Option.map_eq_some_iff.mp (show ((tkeyOf k).bind fun k => assoc k kvs).map (fun d => (t, d)) = some it from he)
      obtain ⟨key, q3, q4⟩ := Option.bind_eq_some_iff.mp q1
      obtain ⟨a, ws, fq, e1, rfl, e3, e4⟩ := r
      obtain ⟨u, gq, p0, p1, p2⟩ := assoc_St e4 _ q4
      refine ⟨u, gq, p2, fun y Q hy q => ?_⟩
      obtain ⟨b, b1, b2⟩ := tkeyOf_v hy q3
      exact .inr ⟨a, u, e1, .inr ⟨ws, key, b, Rd.of e3, b1, b2, p1.symm⟩, q⟩
    | _ => exact False.elim r
  | _ => cases hc
theorem opt_l {α β : Type} {o : Option α} {k : α → M β} {r : Out β} (h : M.bind (M.opt o) k env = some r) : ∃ a, o = some a ∧ k a env = some r := opt_of' h
theorem s_augi (C : Ctx X g w sg W) {p : Pl} {k e : E} {o : Op} {op : Operator} {l j x : Expr} {p1 pos : Pos} (ho : opAug o = some op) (hs : noSlice j = true) (hp : matchPl g p l = true) (wf : (!(effE sg k ++ effE sg e).contains p.root) = true) (hk : PE X j (tE w sg cl W k)) (he : PE X x (tE w sg cl W e)) :
    PS X (.AugAssign (.Subscript l j p1) op x pos) (tS w sg cl W (.augi p k o e)) := by
  obtain ⟨R, q1, q2⟩ := aug_ok (X := X) (w := w) ho
  have hr : p.root ∉ effE sg k ++ effE sg e := fun z => by
    rw [List.contains_iff_mem.mpr z] at wf
    cases wf
  have ha : ∀ ov iv new, augStore j ov iv new = (do holding [new, ov, iv] (setItem ov iv new); release [new, ov, iv] []; pure .next) := fun ov iv new => by
    cases j <;> first | rfl | cases hs
  refine PS.imp (ps_augS (pe_plF C hp) hk (get_any (by have := C.un; omega)) he q2 (set_any (by have := C.un; omega)) ha) fun D σ H ⟨env, F, B, fps, r, S, hst, q⟩ => ?_
  have m1 : ∀ i ∈ effE sg k, i ∈ effS sg (.augi p k o e) := fun i hi => .tail _ (mem_l i hi)
  have m2 : ∀ i ∈ effE sg e, i ∈ effS sg (.augi p k o e) := fun i hi => .tail _ (mem_r i hi)
  obtain ⟨⟨ys, yd⟩, hy, h0⟩ := bindO hst
  obtain ⟨hc, h0⟩ := ite_some h0
  obtain ⟨c1, c2⟩ := and2 hc
  refine ⟨env, F, B, fps, _, S, hy, fun ov hf => ?_⟩
  rcases bind_ok h0 with ⟨kd, env1, h1, h2⟩ | ⟨c, fs, env1, h1, rfl⟩
  · refine ⟨env, F, B, fps, _, S, h1, fun iv H1 F1 fps1 S1 T1 V1 => ?_⟩
    obtain ⟨it, hit, h3⟩ := opt_l h2
    split at h3
    · rename_i hsc
      obtain ⟨sc1, sc2⟩ := and2 hsc
      obtain ⟨fq, f1, f2, e0, R1, hup1⟩ := foc_any S hf (fun z => hr (mem_l _ z)) T1
      have Ri : Rep w H1 kd.2 iv := V1.elim fun fp zz => RepS.all S1.fh S1.bh _ _ _ _ zz.1
      obtain ⟨u, gq, g2, g3⟩ := own_item c1 R1 hit
      rw [C.K]
      refine g3 iv _ Ri ?_
      rcases bind_ok h3 with ⟨x0, env2, h5, h6⟩ | ⟨c, fs, env2, h5, rfl⟩
      · refine ⟨_, F1, B, fps1, _, S1, h5, fun v2 H2 F2 fps2 S2 T2 V2 => ?_⟩
        obtain ⟨res, hsm, h6⟩ := opt_l h6
        obtain ⟨hrs, h6⟩ := ite_app h6
        · obtain ⟨z, hz, h6⟩ := bindO h6
          obtain ⟨z', hz', rfl⟩ := Option.map_eq_some_iff.mp h6
          have T12 : Stp (effE sg k ++ effE sg e) F H fps F2 H2 fps2 := (T1.weak mem_l).trans (T2.weak mem_r)
          refine q1 it x0 res u v2 F2 B H2 _ hsm sc1 hrs ⟨[], RepS.rescal sc1 g2⟩ (V2.elim fun fp zz => ⟨fp, zz.1⟩) S2.fh S2.bh fun zv H5 F5 fp eh ef efh hfn rz _ _ => ?_
          have S5 := S2.new eh ef efh hfn
          have T5 := T12.trans (Stp.new S2 eh ef efh hfn)
          obtain ⟨fq5, k1, k2, e5, R5, hup⟩ := foc_any S hf hr T5
          have Rx : RepS w F5 B H5 res.2 ys.kid zv [] := by
            rw [isF_eq c2]
            exact RepS_frz.mpr ⟨RepS.scalar hrs rz, rfl⟩
          have ndr := S5.nd p.root
          rw [e5] at ndr
          have n4 := (List.nodup_append.mp (List.nodup_append.mp ndr).2.1).1
          obtain ⟨a, o0, fr, rfl, rfl, ha0, hnt, hgo⟩ := set_ok hz R5 Rx (Rep.scalar sc2 Ri) (fun a fr ee hm => by
            subst ee
            rw [List.append_nil] at hm
            exact (List.nodup_cons.mp n4).1 hm)
          refine hgo _ fun o' fr' RR pf => ?_
          obtain ⟨v0, u1, u2⟩ := hup z z' hz'
          obtain ⟨fps6, p1, p2, _, _, _⟩ := put_any (r := (Sh.frz, DI.D.non)) (vr := V.non) (fpr := []) (fpx := []) T5 Fr.nil S5 e5 ha0 hnt Kp.nil u1 u2 RR (by rw [List.append_nil]; exact pf.2 (by rw [List.append_nil]; exact (List.nodup_cons.mp n4).2)) (fun b hb => pf.1 b (by simpa using hb)) (RepS_frz.mpr ⟨rfl, rfl⟩)
          exact q σ _ F5 fps6 p1 p2
      · exact ⟨_, F1, B, fps1, _, S1, h5, fun cls dx H3 F3 fps3 S3 T3 x3 => q cls dx σ H3 F3 fps3 S3 ((T1.weak m1).trans (T3.weak m2)) x3⟩
    · cases h3
  · exact ⟨env, F, B, fps, _, S, h1, fun cls dx H1 F1 fps1 S1 T1 x1 => q cls dx σ H1 F1 fps1 S1 (T1.weak m1) x1⟩
end
end DI
/-! DI8l: attributes set. -/
namespace DI
open PySem L2
variable {F F' F1 F2 B B' H H' H1 H2 : Hp} {σ σ1 : L2.St} {env env1 env2 : Env} {fps fps' fps1 fps2 : Nat → List Addr}
section
variable {X : Cx} {g : Gam} {w : Wd} {sg : Sig} {cl : Calls} {W : WX}
theorem RepSf.len {w : Wd} : ∀ {ds : List (Nat × D)} {ss : List (Nat × Sh)} {vs : List (Str × V)} {fp : List Addr}, RepSf w F B H ds ss vs fp → vs.length = ds.length
  | [], [], _, _, h => by rw [h.1]; rfl
  | [], _ :: _, _, _, h => False.elim h
  | _ :: _, [], _, _, h => False.elim h
  | (j, d) :: ds, (k, s) :: ss, _, _, h => by
    obtain ⟨v, r, f1, f2, _, rfl, _, _, e3⟩ := h
    rw [List.length_cons, List.length_cons, RepSf.len e3]
theorem RepSf.put {gd : Nat → Nat → Bool} (ok : WOk w gd) {f : Nat} {d' : D} {s' : Sh} {u : V} {fx : List Addr} (r : RepS w F B H d' s' u fx) : ∀ {ds : List (Nat × D)} {ss : List (Nat × Sh)} {vs : List (Str × V)} {fp : List Addr}, RepSf w F B H ds ss vs fp →
    ∃ fp', RepSf w F B H (fput f d' ds) (fput f s' ss) (putF (w.fn f) u vs) fp' ∧ PutFp fp fx fp'
  | [], [], _, _, h => by
    obtain ⟨rfl, rfl⟩ := h
    exact ⟨fx, ⟨u, [], fx, [], rfl, rfl, by simp, r, rfl, rfl⟩, fun b hb => by simpa using hb, fun n => by simpa using n⟩
  | [], _ :: _, _, _, h => False.elim h
  | _ :: _, [], _, _, h => False.elim h
  | (j, d) :: ds, (k, s) :: ss, _, _, h => by
    obtain ⟨v, q, g1, g2, rfl, rfl, rfl, e2, e3⟩ := h
    by_cases c : j = f
    · subst c
      rw [fput, fput, putF, if_pos rfl, if_pos rfl, if_pos rfl]
      exact ⟨fx ++ g2, ⟨u, q, fx, g2, rfl, rfl, rfl, r, e3⟩, PutFp.hit (g1 := [])⟩
    · rw [fput, fput, putF, if_neg c, if_neg c, if_neg fun z => c (ok.inj _ _ z)]
      obtain ⟨fp', q1, q2⟩ := RepSf.put ok r e3
      exact ⟨g1 ++ fp', ⟨v, _, g1, fp', rfl, rfl, rfl, e2, q1⟩, q2.cons⟩
/-- an attribute set, at values -/
theorem attr_set (ok : WOk w sg.gd) {s sx : Sh} {d xd : D} {f : Nat} {z : SD} {v u : V} {fq fx : List Addr} (h : attrPut sg.gd (s, d) f (sx, xd) = some z) (r : RepS w F B H d s v fq) (rx : RepS w F B H xd sx u fx) (hn : ∀ a fr, fq = a :: fr → a ∉ fr ++ fx) (nd : (fq ++ fx).Nodup) :
    ∃ a c dx fs fr, v = .ref a ∧ fq = a :: fr ∧ H a = some (.ins (w.ca c) dx fs) ∧ sg.gd c f = true ∧ fs.length < 1000 ∧ ∃ fr', RepS w F B (upd H a (.ins (w.ca c) dx (putF (w.fn f) u fs))) z.2 z.1 (.ref a) (a :: fr') ∧ PutFp fr fx fr' := by
  cases s <;> first | (cases d <;> cases h; done) | skip
  cases d <;> first | (cases h; done) | skip
  rename_i ss c fs
  obtain ⟨hc, h⟩ := ite_some (show (if (sg.gd c f && noB sx && decide (fs.length < 1000)) = true then some (Sh.obj (fput f sx ss), D.obj c (fput f xd fs)) else none) = some z from h)
  cases h
  obtain ⟨hc, h3⟩ := and2 hc
  obtain ⟨h1, h2⟩ := and2 hc
  obtain ⟨a, dx, ws, fr, rfl, rfl, e3, e4, e5⟩ := r
  have na := hn a _ rfl
  obtain ⟨fp', q1, q2⟩ := RepSf.put (f := f) ok rx e5
  have ndx : dx ∉ fr ++ fx := by
    have n2 := (List.nodup_cons.mp nd).2
    exact (List.nodup_cons.mp (show (dx :: (fr ++ fx)).Nodup from n2)).1
  have ne : ∀ b, b ∈ dx :: fp' → b ≠ a := fun b hb e => by
    subst e
    rcases List.mem_cons.mp hb with z | z
    · exact na (by rw [z]; simp)
    · have := q2.1 b z
      exact na (by simp only [List.cons_append, List.mem_cons]; exact .inr this)
  have tk : TK H (upd H a (.ins (w.ca c) dx (putF (w.fn f) u ws))) := fun b xs e => by
    rw [upd_ne fun q => by rw [q, e3] at e; cases e]
    exact e
  refine ⟨a, c, dx, ws, dx :: fr, rfl, rfl, e3, h1, by rw [RepSf.len e5]; exact of_decide_eq_true h3, dx :: fp', ⟨a, dx, _, fp', rfl, rfl, upd_same, ?_, ?_⟩, ?_⟩
  · rw [upd_ne (ne dx (.head _))]
    exact e4
  · exact RepSf.mono (ex_refl F) (ex_refl B) tk _ _ _ _ (fun b o hb e => by rw [upd_ne (ne b (.tail _ hb))]; exact e) q1
  · refine ⟨fun b hb => ?_, fun n => ?_⟩
    · rcases List.mem_cons.mp hb with z | z
      · rw [z]; exact .head _
      · exact .tail _ (q2.1 b z)
    · have n2 : (dx :: (fr ++ fx)).Nodup := n
      exact List.nodup_cons.mpr ⟨fun z => ndx (q2.1 dx z), q2.2 (List.nodup_cons.mp n2).2⟩
theorem s_seta (C : Ctx X g w sg W) {p : Pl} {f : Nat} {e : E} {l x : Expr} {a : Str} {p1 pos : Pos} (ea : a = g.fn f) (hp : matchPl g p l = true) (he : PE X x (tE w sg cl W e)) : PS X (.Assign [.Attribute l a p1] x pos) (tS w sg cl W (.seta p f e)) := by
  have e2 : a = w.fn f := ea.trans (C.gfn f)
  subst e2
  refine PS.imp (ps_fld (pe_plF C hp) he (swaps_at rfl _ _)) fun D σ H ⟨env, F, B, fps, r, S, hst, q⟩ => ?_
  have m1 : ∀ i ∈ effE sg e, i ∈ effS sg (.seta p f e) := mem_l
  refine ev_first (ef := effS sg (.seta p f e)) S m1 hst q fun x0 v env1 H1 F1 fps1 S1 T1 V1 h => ?_
  obtain ⟨x', hx, h⟩ := opt_of h
  obtain ⟨F2, fx, S2, T2, R2, K2, Fr2⟩ := keep_ok kpT hx S1 T1 V1
  obtain ⟨y, hy, h⟩ := bindO h
  obtain ⟨z, hz, h⟩ := bindO h
  obtain ⟨z', hz', rfl⟩ := Option.map_eq_some_iff.mp h
  refine ⟨env1, F2, B, fps1, y, S2, hy, fun ov hf => ?_⟩
  obtain ⟨fq, f1, f2, e0, R3, hup⟩ := foc_any (ef := []) S2 hf (fun q => by cases q) (Stp.refl S2.fh)
  obtain ⟨ys, yd⟩ := y
  obtain ⟨sx, xd⟩ := x'
  have ndr := S2.nd p.root
  rw [e0] at ndr
  have n4 := (List.nodup_append.mp (List.nodup_append.mp ndr).2.1).1
  have ndAll : (fq ++ fx).Nodup := List.nodup_append.mpr ⟨n4, K2.nd, fun b hb c hc ee => by
    subst ee
    exact K2.ds b hc p.root (by rw [e0]; simp [hb])⟩
  have hna : ∀ a fr, fq = a :: fr → a ∉ fr ++ fx := fun a fr ef hm => by
    subst ef
    exact (List.nodup_cons.mp (show (a :: (fr ++ fx)).Nodup from ndAll)).1 hm
  obtain ⟨a, c, dx, fs, fr, rfl, rfl, k1, k2, k3, fr', RR, pf⟩ := attr_set C.wok hz R3 R2 hna ndAll
  obtain ⟨c1, c2⟩ := C.wok.cls c f k2
  obtain ⟨v0, u1, u2⟩ := hup z z' hz'
  rw [C.K]
  refine ⟨a, _, dx, fs, rfl, k1, c1, c2, k3, ?_⟩
  have nd2 : (fr ++ fx).Nodup := (List.nodup_cons.mp (show (a :: (fr ++ fx)).Nodup from ndAll)).2
  obtain ⟨fps4, p1, p2, _, _, _⟩ := put_any (r := (Sh.frz, DI.D.non)) (vr := V.non) (fpr := []) T2 Fr2 S2 e0 k1 trivial K2 u1 u2 RR (by rw [List.append_nil]; exact pf.2 nd2) (fun b hb => pf.1 b (by simpa using hb)) (RepS_frz.mpr ⟨rfl, rfl⟩)
  refine q σ _ F2 fps4 p1 (p2.weak fun i hi => ?_)
  rcases List.mem_cons.mp hi with zz | zz
  · rw [zz]
    exact mem_r _ (.head _)
  · exact zz
end
end DI
/-! DI9a: defs whose bodies may ask that nothing is being shown. -/
namespace DI
open PySem L2 PySem.Spec PyProof.Rows
/-- as the house's promise of a def, with what is known of the shown things -/
structure FnG (gd : Bool) (P : Program) (wo : World) (K : PySem.W.Frag) (mg : Str → Option Value) (base : Heap) (CX : CXT) (k : Nat) (f : Addr) (fd : FuncData) (ps : List Str) (sp : Sp) : Prop where
  len : ∀ vs H Q E, sp vs H Q E → vs.length = ps.length
  run : ∀ (A : Around) (outer : List PySem.Env) (s : Shared) (H : Hp) (args : Args) (us : List Value) (vs : List V) (Q : VK) (E : XK), (gd = true → A.guards = some []) → Room k A → Env0 P wo K mg base A outer s H → BindsTo s fd args (ps.zip us) → Vals vs us → sp vs H Q E →
    codeAny (model P wo) A (.call (.ref f) args) (L2.CR CX outer P wo H s Q E) s
theorem FnG.ok {P : Program} {wo : World} {K : PySem.W.Frag} {mg : Str → Option Value} {base : Heap} {CX : CXT} {k : Nat} {f : Addr} {fd : FuncData} {ps : List Str} {sp : Sp} (h : FnG false P wo K mg base CX k f fd ps sp) : FnOk P wo K mg base CX k f fd ps sp :=
  ⟨h.len, fun A outer s H args us vs Q E => h.run A outer s H args us vs Q E fun z => by cases z⟩
theorem FnG.mono {gd : Bool} {P : Program} {wo : World} {K : PySem.W.Frag} {mg : Str → Option Value} {base : Heap} {CX : CXT} {j k : Nat} {f : Addr} {fd : FuncData} {ps : List Str} {sp : Sp} (F : FnG gd P wo K mg base CX j f fd ps sp) (h : j ≤ k) : FnG gd P wo K mg base CX k f fd ps sp :=
  ⟨F.len, fun A outer s H args us vs Q E hg hr => F.run A outer s H args us vs Q E hg (hr.mono h)⟩
section
variable {X : Cx} {CX : CXT} {k : Nat} {f : Addr} {fd : FuncData} {ps : List Str} {sp : Sp} {E : L2.St → XK} {σ : L2.St} {gd : Bool}
theorem run_fnG {pins : List (Addr × Obj)} {H : Hp} {s : Shared} {Q : VK} {us : List Value} {vs : List V} (F : FnG gd X.prog X.w X.K X.mg X.base CX k f fd ps sp) (hg : gd = true → X.A.guards = some []) (hr : Room k X.A) (hb : Binds X.K fd ps []) (hx : PassesAt CX X σ (E σ))
    (I : L2.Inv X pins σ H s) (r : Vals vs us) (h : sp vs H Q (E σ)) : wpAny (model X.prog X.w) X.A (call (.ref f) us) (EP X pins σ Q) X.xe s := by
  have hl : us.length = ps.length := by rw [← r.length]; exact F.len _ _ _ _ h
  have b := hb s us I.kIn (by rw [List.append_nil]; exact hl)
  rw [List.append_nil] at b
  refine PySem.wpAny_call (PySem.codeAny_mono (F.run X.A X.stack s H ⟨us, []⟩ us vs Q (E σ) hg hr I.env0 b r h) fun res s' hq => ?_)
  cases res with
  | error e => exact hx pins H s e s' I hq
  | ok fl =>
    cases fl with
    | ret u => exact I.after hq
    | next => exact False.elim hq
    | brk => exact False.elim hq
    | cont => exact False.elim hq
end
theorem fn_ofG {gd : Bool} {CX : CXT} {P : Program} {wo : World} {K : PySem.W.Frag} {mg : Str → Option Value} {base : Heap} {k : Nat} {f : Addr} {name qual : Str} {params : Arguments} {body : List Stmt} {scope : Scope} {dV kV doc pm cdv ct oc : Value} {an od : Option Addr}
    {osl : Array (Option Value)} {N ps : List Str} {sp : Sp} (lk : K.lookup f = some ⟨oc, od, .func (PySem.W.fnOf name qual params body scope dV kV doc pm an cdv ct), osl⟩) (hcd : PySem.W.codeIn K cdv qual = true) (Sc : FnScope N ps scope)
    (len : ∀ vs H Q E, sp vs H Q E → vs.length = ps.length)
    (hbody : ∀ (A : Around) (outer : List PySem.Env) (s : Shared) (H : Hp) (vs : List V) (Q : VK) (E : XK), (gd = true → (A.deeper (envOfC qual scope s.heap.objs.size f cdv)).guards = some []) → Room k (A.deeper (envOfC qual scope s.heap.objs.size f cdv)) → sp vs H Q E →
      ∃ t, PSs (cxOf CX P wo K mg base N qual scope f cdv A outer s H E) body t ∧ t { nx := fun _ H' => Q .non H', rt := Q } (start N vs) H) :
    FnG gd P wo K mg base CX (k + 1) f (PySem.W.fnOf name qual params body scope dV kV doc pm an cdv ct) ps sp := by
  refine ⟨len, fun A outer s H args us vs Q E hgd room e0 bnd rel pr => ?_⟩
  have many := len _ _ _ _ pr
  have KX : K.In s.heap := e0.mod.kin.keeps fun b o e => (e0.bs b o e).1
  have nolim : s.heap.NoLimit := e0.mod.nolimit.keeps fun b o e => (e0.bs b o e).1
  have kinds : ∀ y ∈ ps.zip us, scope.names.lookup y.1 = some .local ∨ (scope.names.lookup y.1 = some .cell ∧ ((cellsFrom (s.heap.objs.size + 1) scope.names []).lookup y.1).isSome = true) := fun ⟨n, v⟩ hy =>
    (Sc.par n (List.of_mem_zip hy).1).elim .inl fun q => .inr ⟨q, PySem.W.cellsFrom_some _ _ _ (.inl q)⟩
  refine PySem.codeAny_call_function room.depth (KX _ _ lk) rfl Sc.co Sc.gen rfl (PySem.W.codeRec_of KX hcd) (bnd _ _ _ _ (wpAny_newFunctionEnv_cells Sc.kind kinds fun env he s1 x => ?_))
  subst he
  obtain ⟨t, ht, hq⟩ := hbody A outer s H vs Q E hgd (room.deeper _) pr
  have I := inv_start (CX := CX) (E := E) Sc room.hd e0 many rel x
  refine ⟨nolim.keeps x.toInCall.keep, PySem.codeAny_func (wpAny_mono (ht.run [] s1 (start N vs) H _ I hq) (fun fl s' hs => ?_) fun e s' hs => hs)⟩
  have fin : ∀ {σ' : L2.St} {H' : Hp} {v : V} {u : Value}, L2.Inv (cxOf CX P wo K mg base N qual scope f cdv A outer s H E) [] σ' H' s' → RelV v u → Q v H' → CE outer P wo H s Q u s' :=
    fun {σ' H' v u} J rv q => ⟨v, H', J.os, J.bare, J.base, J.hok, rv, q⟩
  cases fl with
  | ret u => exact hs.elim fun v ⟨σ', H', J, rv, q⟩ => fin J rv q
  | next => exact hs.elim fun σ' ⟨H', J, q⟩ => fin (v := V.non) (u := Value.none) J rfl q
  | brk => exact hs.elim fun _ ⟨_, _, q⟩ => q.elim
  | cont => exact hs.elim fun _ ⟨_, _, q⟩ => q.elim
end DI
/-! DI9b: rows of arguments; what a def keeps, on the data. -/
namespace DI
open PySem L2
variable {F F' F1 F2 B B' H H' H1 H2 : Hp} {σ σ1 : L2.St} {env env1 env2 : Env} {fps fps' fps1 fps2 : Nat → List Addr}
/-- what is asked behind a call -/
def FinC (w : Wd) (n : Nat) (F B H : Hp) (fps : Nat → List Addr) (vs : List V) (Q : VK) (E : XK) (r : DI.CR) : Prop := match r with
  | .ok x outs => ∀ v H' F' fps', Sta w F' B H' (vs.map some) outs fps' → Stp (List.range n) F H fps F' H' fps' → VO w none (List.range n) H fps F' B H' fps' x v → Q v H'
  | .ex c fs outs => ∀ cls dx H' F' fps', Sta w F' B H' (vs.map some) outs fps' → Stp (List.range n) F H fps F' H' fps' → ExR w c fs cls dx F' → E cls dx H'
/-- a def's promise -/
def spD (w : Wd) (n : Nat) (c1 : List SD → Option DI.CR) : Sp := fun vs H Q E => vs.length = n ∧ ∃ args F B fps r, Sta w F B H (vs.map some) (args.map some) fps ∧ (∀ i, n ≤ i → fps i = []) ∧ c1 args = some r ∧ FinC w n F B H fps vs Q E r
def ArgV (w : Wd) (σ : L2.St) (ios : List Nat) (F B H : Hp) (fps : Nat → List Addr) (ca : CA) (v : V) (f : List Addr) : Prop := match ca with
  | .io i => i ∈ ios ∧ σ[i]? = some (some v) ∧ f = []
  | .val x => RepS w F B H x.2 x.1 v f ∨ (x.1 = .bor ∧ f = [] ∧ ∃ t fq, RepS w F B H x.2 t v fq ∧ ∀ a ∈ fq, ∃ j, j ∉ ios ∧ a ∈ fps j)
structure ArgR (w : Wd) (σ : L2.St) (ios : List Nat) (F B H : Hp) (fps : Nat → List Addr) (cas : List CA) (vs : List V) (fpl : Nat → List Addr) : Prop where
  len : vs.length = cas.length
  at_ : ∀ k ca, cas[k]? = some ca → ∃ v, vs[k]? = some v ∧ ArgV w σ ios F B H fps ca v (fpl k)
  kp : ∀ k, Kp F B H fps (fpl k)
  ds : ∀ k l a, a ∈ fpl k → a ∈ fpl l → k = l
section
variable {X : Cx} {g : Gam} {w : Wd} {sg : Sig} {cl : Calls} {W : WX}
def tCa (w : Wd) (sg : Sig) (cl : Calls) (W : WX) (ios : List Nat) (ms : List Md) (as : Es) : TA := fun σ H Q => ∃ env F B fps r, Sta w F B H σ env fps ∧ evC sg cl ms as env = some r ∧ match r with
  | .ok cas env' => ∀ vs H' F' fps' fpl, Sta w F' B H' σ env' fps' → Stp (effC sg ms as) F H fps F' H' fps' → ArgR w σ ios F' B H' fps' cas vs fpl → (∀ k, Fr (effC sg ms as) H fps (fpl k)) → Q vs H'
  | .ex c fs env' => ∀ cls dx H' F' fps', Sta w F' B H' σ env' fps' → Stp (effC sg ms as) F H fps F' H' fps' → ExR w c fs cls dx F' → W cls dx σ H'
def shf (f : List Addr) (fpl : Nat → List Addr) : Nat → List Addr
  | 0 => f
  | k + 1 => fpl k
theorem argR_nil {ios : List Nat} : ArgR w σ ios F B H fps [] [] (fun _ => []) := ⟨rfl, fun k ca h => (by cases h), fun _ => Kp.nil, fun _ _ _ h => (by cases h)⟩
theorem tCa_nil {ios : List Nat} {ms : List Md} {Q : List V → Hp → Prop} (h : tCa w sg cl W ios ms .nil σ H Q) : tNil σ H Q := by
  obtain ⟨env, F, B, fps, r, S, e, q⟩ := h
  cases ms with
  | nil =>
    have e' : some (Out.ok [] env) = some r := e
    cases e'
    exact q [] H F fps (fun _ => []) S (Stp.refl S.fh) argR_nil fun _ => Fr.nil
  | cons m ms => cases m <;> cases e
theorem argR_cons {ios : List Nat} {ca : CA} {cas : List CA} {v : V} {vs : List V} {f : List Addr} {fpl : Nat → List Addr} (h : ArgV w σ ios F B H fps ca v f) (k : Kp F B H fps f) (d : ∀ a ∈ f, ∀ l, a ∉ fpl l) (r : ArgR w σ ios F B H fps cas vs fpl) :
    ArgR w σ ios F B H fps (ca :: cas) (v :: vs) (shf f fpl) := by
  refine ⟨by rw [List.length_cons, List.length_cons, r.len], fun j c e => ?_, fun j => ?_, fun j l a h1 h2 => ?_⟩
  · cases j with
    | zero =>
      cases (show some ca = some c from e)
      exact ⟨v, rfl, h⟩
    | succ j => exact r.at_ j c e
  · cases j with
    | zero => exact k
    | succ j => exact r.kp j
  · cases j <;> cases l
    · rfl
    · exact (d a h1 _ h2).elim
    · exact (d a h2 _ h1).elim
    · rw [r.ds _ _ a h1 h2]
/-- the value of one argument, as it is handed over -/
theorem argAs_ok {ios : List Nat} {e : E} {m : Md} {x : SD} {ca : CA} {ef : List Nat} {v : V} (h : argAs e m x = some ca) (hio : out e.root ios = true) (S : Sta w F1 B H1 σ env1 fps1) (T : Stp ef F H fps F1 H1 fps1) (V1 : VO w e.root ef H fps F1 B H1 fps1 x v) :
    ∃ F2 f1, Sta w F2 B H1 σ env1 fps1 ∧ Stp ef F H fps F2 H1 fps1 ∧ Kp F2 B H1 fps1 f1 ∧ Fr ef H fps f1 ∧ ∃ y : SD, ca = .val y ∧
      (RepS w F2 B H1 y.2 y.1 v f1 ∨ (y.1 = .bor ∧ f1 = [] ∧ ∃ t fq, RepS w F2 B H1 y.2 t v fq ∧ ∀ a ∈ fq, ∃ j, e.root = some j ∧ j ∉ ios ∧ a ∈ fps1 j)) := by
  have keep : ∀ {t : Sh}, (takeAs t e x).map CA.val = some ca → ∃ F2 f1, Sta w F2 B H1 σ env1 fps1 ∧ Stp ef F H fps F2 H1 fps1 ∧ Kp F2 B H1 fps1 f1 ∧ Fr ef H fps f1 ∧ ∃ y : SD, ca = .val y ∧
      (RepS w F2 B H1 y.2 y.1 v f1 ∨ (y.1 = .bor ∧ f1 = [] ∧ ∃ t fq, RepS w F2 B H1 y.2 t v fq ∧ ∀ a ∈ fq, ∃ j, e.root = some j ∧ j ∉ ios ∧ a ∈ fps1 j)) := fun {t} h => by
    obtain ⟨y, hy, rfl⟩ := Option.map_eq_some_iff.mp h
    obtain ⟨F2, f1, S2, T2, R2, K2, Fr2⟩ := keep_ok (kpA t) hy S T V1
    exact ⟨F2, f1, S2, T2, K2, Fr2, y, rfl, .inl R2⟩
  cases m with
  | bor =>
    have h' : (if x.2.scal = true then some (CA.val (.frz, x.2)) else if (e.place || x.1.isB || noB x.1) = true then some (CA.val (.bor, x.2)) else none) = some ca := h
    obtain ⟨s, d⟩ := x
    obtain ⟨fp, r, q⟩ := V1
    by_cases hs : d.scal = true
    · rw [if_pos hs] at h'
      cases h'
      exact ⟨F1, [], S, T, Kp.nil, Fr.nil, _, rfl, .inl (RepS_frz.mpr ⟨RepS.scalar hs r, rfl⟩)⟩
    · rw [if_neg hs] at h'
      obtain ⟨hc, h'⟩ := ite_some h'
      cases h'
      cases hp : e.root with
      | some j =>
        rw [hp] at q
        exact ⟨F1, [], S, T, Kp.nil, Fr.nil, _, rfl, .inr ⟨rfl, rfl, s, fp, r, fun a ha => ⟨j, rfl, fun hj => out_ok hio j hp hj, q a ha⟩⟩⟩
      | none =>
        rw [hp] at q
        by_cases hb : s.isB = true
        · have es := isB_eq hb
          subst es
          exact ⟨F1, [], S, T, Kp.nil, Fr.nil, _, rfl, .inl (RepS_bor.mpr ⟨(RepS_bor.mp r).1, rfl⟩)⟩
        · have hpl := root_place.mp hp
          rw [hpl] at hc
          have hn : noB s = true := by simpa [hb] using hc
          obtain ⟨fz, z1, z2⟩ := frzS d s v fp hn r
          have rep := z2 (grow F1 H1 fz) (grow_ex S.fh fz) fun a ha => grow_at ha
          refine ⟨grow F1 H1 fz, [], Sta.cut S z1 q.1.ds, Stp.cut T z1 q.2, Kp.nil, Fr.nil, _, rfl, .inr ⟨rfl, rfl, .frz, [], RepS_frz.mpr ⟨rep, rfl⟩, fun a ha => by cases ha⟩⟩
  | frz => exact keep h
  | own s => exact keep h
  | io => cases h
theorem ArgV.step {ef ios : List Nat} {ca : CA} {v : V} {f : List Addr} {rt : Option Nat} (S : Sta w F1 B H1 σ env1 fps1) (T : Stp ef F1 H1 fps1 F2 H2 fps2) (K : Kp F1 B H1 fps1 f)
    (h : ∃ y : SD, ca = .val y ∧ (RepS w F1 B H1 y.2 y.1 v f ∨ (y.1 = .bor ∧ f = [] ∧ ∃ t fq, RepS w F1 B H1 y.2 t v fq ∧ ∀ a ∈ fq, ∃ j, rt = some j ∧ j ∉ ios ∧ a ∈ fps1 j))) (hn : ∀ j, rt = some j → j ∉ ef) : ArgV w σ ios F2 B H2 fps2 ca v f := by
  obtain ⟨y, rfl, h⟩ := h
  rcases h with h | ⟨h1, h2, t, fq, h3, h4⟩
  · exact .inl (T.keep S (fun a ha i _ => K.ds a ha i) h)
  · refine .inr ⟨h1, h2, t, fq, T.keep S (fun a ha i hi hm => ?_) h3, fun a ha => ?_⟩
    · obtain ⟨j, e, _, hj⟩ := h4 a ha
      have := S.sp i j a hm hj
      subst this
      exact hn _ e hi
    · obtain ⟨j, e, hio, hj⟩ := h4 a ha
      exact ⟨j, hio, by rw [T.sm j (hn j e)]; exact hj⟩
/-- an argument that is handed over by its value -/
theorem tCa_cons {ios : List Nat} {m : Md} {ms : List Md} {e : E} {es : Es} {Q : List V → Hp → Prop} (hm : ioIn m = false) (wf : (out e.root (effC sg ms es) && out e.root ios) = true) (h : tCa w sg cl W ios (m :: ms) (.cons e es) σ H Q) : tCons (tE w sg cl W e) (tCa w sg cl W ios ms es) σ H Q := by
  obtain ⟨wf1, wf2⟩ := and2 wf
  obtain ⟨env, F, B, fps, r, S, he, q⟩ := h
  have he' : (M.bind (ev sg cl e) fun x => M.bind (M.opt (argAs e m x)) fun ca => M.bind (evC sg cl ms es) fun cas => M.pure (ca :: cas)) env = some r := by
    cases m <;> first | exact he | cases hm
  have hef : effC sg (m :: ms) (.cons e es) = effE sg e ++ effC sg ms es := by
    cases m <;> first | rfl | cases hm
  rw [hef] at q
  rcases bind_ok he' with ⟨x, env1, h1, h2⟩ | ⟨c, fs, env1, h1, rfl⟩
  · refine ⟨env, F, B, fps, _, S, h1, fun v H1 F1 fps1 S1 T1 V1 => ?_⟩
    obtain ⟨ca, hca, h3⟩ := opt_of' h2
    obtain ⟨F2, f1, S2, T2, K2, Fr2, hy⟩ := argAs_ok hca wf2 S1 T1 V1
    rcases bind_ok h3 with ⟨cas, env2, h4, h5⟩ | ⟨c, fs, env2, h4, rfl⟩
    · cases pure_ok h5
      refine ⟨env1, F2, B, fps1, _, S2, h4, fun vs H3 F3 fps3 fpl S3 T3 R3 Fr3 => ?_⟩
      have K3 := K2.step T3
      refine q (v :: vs) H3 F3 fps3 (shf f1 fpl) S3 ((T2.weak mem_l).trans (T3.weak mem_r)) (argR_cons (ArgV.step S2 T3 K2 hy (out_ok wf1)) K3 (fun a ha l hl => ?_) R3) fun k => ?_
      · rcases Fr3 l a hl with z | ⟨j, _, z⟩
        · exact (K2.hd a ha).some z
        · exact K2.ds a ha j z
      · cases k with
        | zero => exact Fr2.weak mem_l
        | succ k => exact Fr.back (T2.weak mem_l) ((Fr3 k).weak mem_r)
    · exact ⟨env1, F2, B, fps1, _, S2, h4, fun cls dx H3 F3 fps3 S3 T3 x3 => q cls dx H3 F3 fps3 S3 ((T2.weak mem_l).trans (T3.weak mem_r)) x3⟩
  · exact ⟨env, F, B, fps, _, S, h1, fun cls dx H1 F1 fps1 S1 T1 x1 => q cls dx H1 F1 fps1 S1 (T1.weak mem_l) x1⟩
/-- one that is lent to be changed -/
theorem tCa_io {ios : List Nat} {ms : List Md} {i : Nat} {es : Es} {Q : List V → Hp → Prop} (hi : i ∈ ios) (h : tCa w sg cl W ios (.io :: ms) (.cons (.pl (.var i)) es) σ H Q) : tCons (tVar i) (tCa w sg cl W ios ms es) σ H Q := by
  obtain ⟨env, F, B, fps, r, S, he, q⟩ := h
  have sub : ∀ j ∈ effC sg ms es, j ∈ effC sg (.io :: ms) (.cons (.pl (.var i)) es) := fun j hj => List.mem_append_right _ hj
  have he' : (M.bind (getV i) fun _ => M.bind (evC sg cl ms es) fun cas => M.pure (CA.io i :: cas)) env = some r := he
  rcases bind_ok he' with ⟨x, env1, h1, h2⟩ | ⟨c, fs, env1, h1, rfl⟩
  · obtain ⟨y, hy, e⟩ := getV_ok h1
    cases e
    obtain ⟨v, e1, r1⟩ := S.sl i _ _ hy
    refine ⟨v, e1, ?_⟩
    rcases bind_ok h2 with ⟨cas, env2, h4, h5⟩ | ⟨c, fs, env2, h4, rfl⟩
    · cases pure_ok h5
      refine ⟨env, F, B, fps, _, S, h4, fun vs H3 F3 fps3 fpl S3 T3 R3 Fr3 => ?_⟩
      refine q (v :: vs) H3 F3 fps3 (shf [] fpl) S3 (T3.weak sub) (argR_cons ⟨hi, e1, rfl⟩ Kp.nil (fun a ha => by cases ha) R3) fun k => ?_
      cases k with
      | zero => exact Fr.nil
      | succ k => exact (Fr3 k).weak sub
    · exact ⟨env, F, B, fps, _, S, h4, fun cls dx H3 F3 fps3 S3 T3 x3 => q cls dx H3 F3 fps3 S3 (T3.weak sub) x3⟩
  · obtain ⟨_, _, e⟩ := getV_ok h1
    cases e
end
end DI
/-! DI9c: a call, seen from the caller. -/
namespace DI
open PySem L2
variable {F F' F0 F1 F2 B B' H H' H0 H1 H2 : Hp} {σ σ1 : L2.St} {env env1 env2 : Env} {fps fps' fps0 fps1 fps2 : Nat → List Addr}
section
variable {X : Cx} {g : Gam} {w : Wd} {sg : Sig} {cl : Calls} {W : WX}
theorem ioGets_get : ∀ {cas : List CA} {args : List SD}, ioGets env cas = some args → args.length = cas.length ∧ ∀ (k : Nat) (ca : CA), cas[k]? = some ca → ∃ x, args[k]? = some x ∧ ioGet env ca = some x
  | [], _, h => by
    cases h
    exact ⟨rfl, fun k ca h => by cases h⟩
  | c :: cs, _, h => by
    obtain ⟨x, h1, h2⟩ := Option.bind_eq_some_iff.mp (show (ioGet env c).bind (fun x => (ioGets env cs).map fun xs => x :: xs) = some _ from h)
    obtain ⟨xs, h3, rfl⟩ := Option.map_eq_some_iff.mp h2
    obtain ⟨l1, l2⟩ := ioGets_get h3
    refine ⟨by rw [List.length_cons, List.length_cons, l1], fun k ca e => ?_⟩
    cases k with
    | zero =>
      cases (show some c = some ca from e)
      exact ⟨x, rfl, h1⟩
    | succ k => exact l2 k ca e
theorem ioBack_get : ∀ {cas : List CA} {outs : List (Option SD)} {env e : Env}, ioBack env cas outs = some e → e.length = env.length ∧ (∀ i, (∀ k : Nat, cas[k]? ≠ some (CA.io i)) → e[i]? = env[i]?) ∧
    ∀ (k i : Nat), cas[k]? = some (CA.io i) → (∀ l : Nat, cas[l]? = some (CA.io i) → l = k) → ∃ x, outs[k]? = some (some x) ∧ x.1.given = true ∧ ∀ y, e[i]? = some y → y = some x
  | [], outs, env, e, h => by
    have h' : some env = some e := by cases outs <;> (simp only [ioBack] at h; exact h)
    cases h'
    exact ⟨rfl, fun _ _ => rfl, fun k i h => by cases h⟩
  | .val x :: cas, [], env, e, h => by cases h
  | .val x :: cas, o :: outs, env, e, h => by
    obtain ⟨h1, h2, h3⟩ := ioBack_get (show ioBack env cas outs = some e from h)
    refine ⟨h1, fun i hi => h2 i fun k => hi (k + 1), fun k i e1 hu => ?_⟩
    cases k with
    | zero => cases e1
    | succ k => exact h3 k i e1 fun l hl => Nat.succ.inj (hu (l + 1) hl)
  | .io j :: cas, [], env, e, h => by cases h
  | .io j :: cas, none :: outs, env, e, h => by cases h
  | .io j :: cas, some x :: outs, env, e, h => by
    obtain ⟨hg, h'⟩ := ite_some (show (if x.1.given = true then ioBack (env.set j (some x)) cas outs else none) = some e from h)
    obtain ⟨h1, h2, h3⟩ := ioBack_get h'
    refine ⟨by rw [h1, List.length_set], fun i hi => ?_, fun k i e1 hu => ?_⟩
    · rw [h2 i fun k => hi (k + 1), List.getElem?_set_ne fun z => hi 0 (by rw [z]; rfl)]
    · cases k with
      | zero =>
        cases (show some (CA.io j) = some (CA.io i) from e1)
        refine ⟨x, rfl, hg, fun y hy => ?_⟩
        have hno : ∀ k : Nat, cas[k]? ≠ some (CA.io j) := fun k hk => absurd (hu (k + 1) hk) (Nat.succ_ne_zero k)
        rw [h2 j hno, List.getElem?_set] at hy
        simp only [if_true] at hy
        split at hy
        · exact (Option.some.inj hy).symm
        · cases hy
      | succ k => exact h3 k i e1 fun l hl => Nat.succ.inj (hu (l + 1) hl)
/-- what is handed over -/
def fpC (fps : Nat → List Addr) (fpl : Nat → List Addr) (cas : List CA) (k : Nat) : List Addr := match cas[k]? with
  | some (CA.io i) => fps i
  | some (CA.val _) => fpl k
  | none => []
open Classical in
noncomputable def without (H : Hp) (Z : Addr → Prop) : Hp := fun a => if Z a then none else H a
theorem without_ex (H : Hp) (Z : Addr → Prop) : Ex (without H Z) H := fun a o h => by
  unfold without at h
  split at h
  · cases h
  · exact h
theorem without_in {Z : Addr → Prop} {a : Addr} (h : Z a) : without H Z a = none := if_pos h
theorem without_out {Z : Addr → Prop} {a : Addr} (h : ¬ Z a) : without H Z a = H a := if_neg h
open Classical in
noncomputable def fpB (fps fps' : Nat → List Addr) (cas : List CA) (i : Nat) : List Addr := if h : ∃ k : Nat, cas[k]? = some (CA.io i) then fps' (choose h) else fps i
theorem fpB_io {cas : List CA} {k i : Nat} (h : cas[k]? = some (CA.io i)) (hu : ∀ l : Nat, cas[l]? = some (CA.io i) → l = k) : fpB fps fps' cas i = fps' k := by
  unfold fpB
  have hx : ∃ k : Nat, cas[k]? = some (CA.io i) := ⟨k, h⟩
  rw [dif_pos hx]
  rw [hu _ (Classical.choose_spec hx)]
theorem fpB_no {cas : List CA} {i : Nat} (h : ∀ k : Nat, cas[k]? ≠ some (CA.io i)) : fpB fps fps' cas i = fps i := dif_neg fun ⟨k, hk⟩ => h k hk
mutual
/-- nothing lent within: it stands without what is lent -/
theorem RepS.noB (l : List (Nat × V)) : ∀ (d : D) (s : Sh) (v : V) (fp : List Addr), noB s = true → RepS w F B H d s v fp → RepS (w.on l) F B' H d s v fp := fun d s v fp hn h => by
  cases s with
  | frz => exact RepS_frz.mpr ⟨Rep.monoL l (ex_refl _) _ _ (RepS_frz.mp h).1, (RepS_frz.mp h).2⟩
  | bor => cases hn
  | lst s =>
    cases d with
    | lst ds =>
      obtain ⟨a, vs, fq, e1, e2, e3, e4⟩ := h
      exact ⟨a, vs, fq, e1, e2, e3, RepSs.noB l ds s vs fq hn e4⟩
    | _ => exact False.elim h
  | dic s =>
    cases d with
    | dic ds =>
      obtain ⟨a, vs, fq, e1, e2, e3, e4⟩ := h
      exact ⟨a, vs, fq, e1, e2, e3, RepSk.noB l ds s vs fq hn e4⟩
    | dit ds =>
      obtain ⟨a, vs, fq, e1, e2, e3, e4⟩ := h
      exact ⟨a, vs, fq, e1, e2, e3, RepSt.noB l ds s vs fq hn e4⟩
    | _ => exact False.elim h
  | tup ss =>
    cases d with
    | tup ds =>
      obtain ⟨a, vs, e1, e3, e4⟩ := h
      exact ⟨a, vs, e1, e3, RepSu.noB l ds ss vs fp hn e4⟩
    | _ => exact False.elim h
  | obj ss =>
    cases d with
    | obj c fs =>
      obtain ⟨a, dx, vs, fq, e1, e2, e3, e4, e5⟩ := h
      exact ⟨a, dx, vs, fq, e1, e2, e3, e4, RepSf.noB l fs ss vs fq hn e5⟩
    | _ => exact False.elim h
theorem RepSs.noB (l : List (Nat × V)) : ∀ (d : List D) (s : Sh) (v : List V) (fp : List Addr), noB s = true → RepSs w F B H d s v fp → RepSs (w.on l) F B' H d s v fp
  | [], _, _, _, _, h => h
  | d :: ds, s, _, _, hn, h => by
    obtain ⟨v, r, f1, f2, e1, e2, e3, e4⟩ := h
    exact ⟨v, r, f1, f2, e1, e2, RepS.noB l d s v f1 hn e3, RepSs.noB l ds s r f2 hn e4⟩
theorem RepSk.noB (l : List (Nat × V)) : ∀ (d : List (Key × D)) (s : Sh) (v : List (Key × V)) (fp : List Addr), noB s = true → RepSk w F B H d s v fp → RepSk (w.on l) F B' H d s v fp
  | [], _, _, _, _, h => h
  | (k, d) :: ds, s, _, _, hn, h => by
    obtain ⟨v, r, f1, f2, e1, e2, e3, e4⟩ := h
    exact ⟨v, r, f1, f2, e1, e2, RepS.noB l d s v f1 hn e3, RepSk.noB l ds s r f2 hn e4⟩
theorem RepSt.noB (l : List (Nat × V)) : ∀ (d : List (List Key × D)) (s : Sh) (v : List (List Key × V)) (fp : List Addr), noB s = true → RepSt w F B H d s v fp → RepSt (w.on l) F B' H d s v fp
  | [], _, _, _, _, h => h
  | (k, d) :: ds, s, _, _, hn, h => by
    obtain ⟨v, r, f1, f2, e1, e2, e3, e4⟩ := h
    exact ⟨v, r, f1, f2, e1, e2, RepS.noB l d s v f1 hn e3, RepSt.noB l ds s r f2 hn e4⟩
theorem RepSu.noB (l : List (Nat × V)) : ∀ (d : List D) (s : List Sh) (v : List V) (fp : List Addr), noBs s = true → RepSu w F B H d s v fp → RepSu (w.on l) F B' H d s v fp
  | [], [], _, _, _, h => h
  | d :: ds, s :: ss, _, _, hn, h => by
    obtain ⟨h1, h2⟩ := and2 (show (DI.noB s && noBs ss) = true from hn)
    obtain ⟨v, r, f1, f2, e1, e2, e3, e4⟩ := h
    exact ⟨v, r, f1, f2, e1, e2, RepS.noB l d s v f1 h1 e3, RepSu.noB l ds ss r f2 h2 e4⟩
  | [], _ :: _, _, _, _, h => False.elim h
  | _ :: _, [], _, _, _, h => False.elim h
theorem RepSf.noB (l : List (Nat × V)) : ∀ (d : List (Nat × D)) (s : List (Nat × Sh)) (v : List (Str × V)) (fp : List Addr), noBf s = true → RepSf w F B H d s v fp → RepSf (w.on l) F B' H d s v fp
  | [], [], _, _, _, h => h
  | (f, d) :: ds, (k, s) :: ss, _, _, hn, h => by
    obtain ⟨h1, h2⟩ := and2 (show (DI.noB s && noBf ss) = true from hn)
    obtain ⟨v, r, f1, f2, e0, e1, e2, e3, e4⟩ := h
    exact ⟨v, r, f1, f2, e0, e1, e2, RepS.noB l d s v f1 h1 e3, RepSf.noB l ds ss r f2 h2 e4⟩
  | [], _ :: _, _, _, _, h => False.elim h
  | _ :: _, [], _, _, _, h => False.elim h
end
/-- a call -/
theorem call_gen {ef ios : List Nat} {cas : List CA} {vs : List V} {fpl : Nat → List Addr} {n : Nat} {args : List SD} (S1 : Sta w F1 B H1 σ env1 fps1) (T1 : Stp ef F0 H0 fps0 F1 H1 fps1) (R : ArgR w σ ios F1 B H1 fps1 cas vs fpl) (fr : ∀ k, Fr ef H0 fps0 (fpl k))
    (hs : ∀ i ∈ ios, i ∈ ef) (hu : ∀ k l i : Nat, cas[k]? = some (CA.io i) → cas[l]? = some (CA.io i) → l = k) (hn : cas.length = n) (ha : ioGets env1 cas = some args) :
    ∃ Bc fpc, Sta (w.on []) F1 Bc H1 (vs.map some) (args.map some) fpc ∧ (∀ i, n ≤ i → fpc i = []) ∧
      ∀ {outs : List (Option SD)} {env2 : Env} {H' F' : Hp} {fps' : Nat → List Addr}, ioBack env1 cas outs = some env2 → Sta (w.on []) F' Bc H' (vs.map some) outs fps' → Stp (List.range n) F1 H1 fpc F' H' fps' →
        ∃ fps2, Sta w F' B H' σ env2 fps2 ∧ Stp ef F0 H0 fps0 F' H' fps2 ∧
          ∀ (y : SD) (u : V) (fp : List Addr), noB y.1 = true → RepS (w.on []) F' Bc H' y.2 y.1 u fp → fp.Nodup → (∀ a ∈ fp, F' a = none ∧ Bc a = none) → (∀ a ∈ fp, Held H' a) → (∀ (k i : Nat), cas[k]? = some (CA.io i) → ∀ a ∈ fp, a ∉ fps' k) →
            (∀ a ∈ fp, H1 a = none ∨ ∃ k ∈ List.range n, a ∈ fpc k) → VO w none ef H0 fps0 F' B H' fps2 y u := by
  obtain ⟨la, ga⟩ := ioGets_get ha
  -- what is handed over
  have zin : ∀ k a, a ∈ fpC fps1 fpl cas k → (∃ i, cas[k]? = some (CA.io i) ∧ i ∈ ios ∧ a ∈ fps1 i) ∨ ((∃ x, cas[k]? = some (.val x)) ∧ a ∈ fpl k) := fun k a hk => by
    unfold fpC at hk
    split at hk
    · rename_i i e
      obtain ⟨v, _, z⟩ := R.at_ k _ e
      exact .inl ⟨i, e, z.1, hk⟩
    · rename_i x e
      exact .inr ⟨⟨x, e⟩, hk⟩
    · cases hk
  have zf : ∀ k a, a ∈ fpC fps1 fpl cas k → (F1 a = none ∧ B a = none) ∧ Held H1 a := fun k a hk => by
    rcases zin k a hk with ⟨i, _, _, z⟩ | ⟨_, z⟩
    · exact ⟨S1.nf i a z, S1.hd i a z⟩
    · exact ⟨(R.kp k).nf a z, (R.kp k).hd a z⟩
  have zd : ∀ k l a, a ∈ fpC fps1 fpl cas k → a ∈ fpC fps1 fpl cas l → k = l := fun k l a h1 h2 => by
    rcases zin k a h1 with ⟨i, e1, _, z1⟩ | ⟨_, z1⟩ <;> rcases zin l a h2 with ⟨j, e2, _, z2⟩ | ⟨_, z2⟩
    · have := S1.sp i j a z1 z2
      subst this
      exact hu l k i e2 e1
    · exact ((R.kp l).ds a z2 i z1).elim
    · exact ((R.kp k).ds a z1 j z2).elim
    · exact R.ds k l a z1 z2
  have znd : ∀ k, (fpC fps1 fpl cas k).Nodup := fun k => by
    unfold fpC
    split
    · exact S1.nd _
    · exact (R.kp k).nd
    · exact List.nodup_nil
  generalize hZ : (fun a => ∃ k, a ∈ fpC fps1 fpl cas k) = Z
  have hZa : ∀ a, Z a ↔ ∃ k, a ∈ fpC fps1 fpl cas k := fun a => by rw [← hZ]
  have ztup : ∀ a xs, H1 a = some (.tup xs) → ¬ Z a := fun a xs e z => by
    obtain ⟨k, hk⟩ := (hZa a).mp z
    exact held_not (zf k a hk).2 ⟨xs, e⟩
  have eF : Ex F1 (without H1 Z) := fun a o e => by
    rw [without_out fun z => ?_]
    · exact S1.fh a o e
    · obtain ⟨k, hk⟩ := (hZa a).mp z
      rw [(zf k a hk).1.1] at e
      cases e
  have eB : Ex B (without H1 Z) := fun a o e => by
    rw [without_out fun z => ?_]
    · exact S1.bh a o e
    · obtain ⟨k, hk⟩ := (hZa a).mp z
      rw [(zf k a hk).1.2] at e
      cases e
  have toC : ∀ {d s v fp}, RepS w F1 B H1 d s v fp → RepS (w.on []) F1 (without H1 Z) H1 d s v fp := fun {d s v fp} z => RepS.monoL [] (ex_refl _) eB (fun _ _ z => z) d s v fp (fun _ _ _ z => z) z
  have S0 : Sta (w.on []) F1 (without H1 Z) H1 (vs.map some) (args.map some) (fpC fps1 fpl cas) := by
    refine ⟨S1.fh, without_ex _ _, by rw [List.length_map, List.length_map, la, R.len], fun k s d e => ?_, fun k a hk => ⟨(zf k a hk).1.1, without_in ((hZa a).mpr ⟨k, hk⟩)⟩, fun k a hk => (zf k a hk).2, znd, zd, fun i v hv => by cases hv⟩
    rw [List.getElem?_map] at e
    obtain ⟨y, ey, e⟩ := Option.map_eq_some_iff.mp e
    cases e
    have hk : k < cas.length := by
      rw [← la]
      exact (List.getElem?_eq_some_iff.mp ey).1
    have ec : cas[k]? = some cas[k] := List.getElem?_eq_getElem hk
    generalize cas[k] = ca at ec
    obtain ⟨x, ex, gx⟩ := ga k ca ec
    rw [ey] at ex
    cases ex
    obtain ⟨v, ev', av⟩ := R.at_ k ca ec
    refine ⟨v, by rw [List.getElem?_map, ev']; rfl, ?_⟩
    cases ca with
    | io i =>
      have gx' : (match env1[i]? with | some (some x) => if x.1.given = true then some x else none | _ => none) = some (s, d) := gx
      split at gx'
      · rename_i y hy
        obtain ⟨_, gx'⟩ := ite_some gx'
        cases gx'
        obtain ⟨v', e1, r1⟩ := S1.sl i s d hy
        rw [av.2.1] at e1
        cases e1
        have ef' : fpC fps1 fpl cas k = fps1 i := by unfold fpC; rw [ec]
        rw [ef']
        exact toC r1
      · cases gx'
    | val x =>
      cases gx
      have ef' : fpC fps1 fpl cas k = fpl k := by unfold fpC; rw [ec]
      rw [ef']
      rcases av with av | ⟨e1, e2, t, fq, e3, e4⟩
      · exact toC av
      · have e1' : s = .bor := e1
        subst e1'
        rw [e2]
        have nz : ∀ a ∈ fq, ¬ Z a := fun a haq z => by
          obtain ⟨l, hl⟩ := (hZa a).mp z
          obtain ⟨j, hj, haj⟩ := e4 a haq
          rcases zin l a hl with ⟨i, _, hi, z1⟩ | ⟨_, z1⟩
          · have := S1.sp i j a z1 haj
            subst this
            exact hj hi
          · exact (R.kp l).ds a z1 j haj
        refine RepS_bor.mpr ⟨?_, rfl⟩
        refine Rep.monoL [] (ex_refl _) d v (RepS.all eF eB d t v fq (RepS.mono (ex_refl _) (ex_refl _) (fun a xs z => ?_) d t v fq (fun a o haq z => ?_) e3))
        · rw [without_out (ztup a xs z)]
          exact z
        · rw [without_out (nz a haq)]
          exact z
  have n0 : ∀ i, n ≤ i → fpC fps1 fpl cas i = [] := fun i hi => by
    unfold fpC
    rw [List.getElem?_eq_none (by rw [hn]; exact hi)]
  have inR : ∀ k a, a ∈ fpC fps1 fpl cas k → k ∈ List.range n := fun k a hk => List.mem_range.mpr (by
    rcases Nat.lt_or_ge k n with z | z
    · exact z
    · rw [n0 k z] at hk
      cases hk)
  refine ⟨without H1 Z, fpC fps1 fpl cas, S0, n0, ?_⟩
  have old : ∀ a, ¬ Z a → ∀ o, H1 a = some o → without H1 Z a = some o := fun a z o e => by rw [without_out z]; exact e
  have fin : ∀ {outs : List (Option SD)} {env2 : Env} {H' F' : Hp} {fps' : Nat → List Addr}, ioBack env1 cas outs = some env2 → Sta (w.on []) F' (without H1 Z) H' (vs.map some) outs fps' → Stp (List.range n) F1 H1 (fpC fps1 fpl cas) F' H' fps' →
      Sta w F' B H' σ env2 (fpB fps1 fps' cas) ∧ Stp ef F0 H0 fps0 F' H' (fpB fps1 fps' cas) ∧ (∀ i a, a ∈ fpB fps1 fps' cas i → (∃ k : Nat, cas[k]? = some (CA.io i) ∧ a ∈ fps' k) ∨ (a ∈ fps1 i ∧ ∀ k : Nat, cas[k]? ≠ some (CA.io i))) ∧
      (∀ a, ((H1 a = none) ∨ ∃ k, a ∈ fpC fps1 fpl cas k) → H0 a = none ∨ ∃ j ∈ ef, a ∈ fps0 j) := fun {outs env2 H' F' fps'} hb Sc Tc => by
    obtain ⟨b1, b2, b3⟩ := ioBack_get hb
    have cs : ∀ i a, a ∈ fpB fps1 fps' cas i → (∃ k : Nat, cas[k]? = some (CA.io i) ∧ a ∈ fps' k) ∨ (a ∈ fps1 i ∧ ∀ k : Nat, cas[k]? ≠ some (CA.io i)) := fun i a hi => by
      by_cases hx : ∃ k : Nat, cas[k]? = some (CA.io i)
      · obtain ⟨k, hk⟩ := hx
        rw [fpB_io hk fun l hl => hu k l i hk hl] at hi
        exact .inl ⟨k, hk, hi⟩
      · have hx' : ∀ k : Nat, cas[k]? ≠ some (CA.io i) := fun k hk => hx ⟨k, hk⟩
        rw [fpB_no hx'] at hi
        exact .inr ⟨hi, hx'⟩
    have nz : ∀ i a, a ∈ fps1 i → (∀ k : Nat, cas[k]? ≠ some (CA.io i)) → ¬ Z a := fun i a hi hx z => by
      obtain ⟨k, hk⟩ := (hZa a).mp z
      rcases zin k a hk with ⟨j, e, _, z1⟩ | ⟨_, z1⟩
      · have := S1.sp i j a hi z1
        subst this
        exact hx k e
      · exact (R.kp k).ds a z1 i hi
    have bk : ∀ a, ((H1 a = none) ∨ ∃ k, a ∈ fpC fps1 fpl cas k) → H0 a = none ∨ ∃ j ∈ ef, a ∈ fps0 j := fun a z => by
      rcases z with z | ⟨k, hk⟩
      · exact .inl (T1.gone z)
      · rcases zin k a hk with ⟨i, _, hi, z1⟩ | ⟨_, z1⟩
        · exact T1.nw i (hs i hi) a z1
        · exact fr k a z1
    have back : ∀ {d s v fp}, noB s = true → RepS (w.on []) F' (without H1 Z) H' d s v fp → RepS w F' B H' d s v fp := fun {d s v fp} hnb z => RepS.noB (w := w.on []) w.io d s v fp hnb z
    refine ⟨⟨Sc.fh, ex_trans eB Sc.bh, by rw [b1]; exact S1.ln, fun i s d e => ?_, fun i a hi => ?_, fun i a hi => ?_, fun i => ?_, fun i j a hi hj => ?_, S1.io⟩, ?_, cs, bk⟩
    · by_cases hx : ∃ k : Nat, cas[k]? = some (CA.io i)
      · obtain ⟨k, hk⟩ := hx
        obtain ⟨x, o1, o2, o3⟩ := b3 k i hk fun l hl => hu k l i hk hl
        have := o3 _ e
        cases this
        obtain ⟨v, v1, v2⟩ := Sc.sl k s d o1
        obtain ⟨v', w1, w2⟩ := R.at_ k _ hk
        rw [List.getElem?_map, w1] at v1
        cases v1
        rw [fpB_io hk fun l hl => hu k l i hk hl]
        exact ⟨v, w2.2.1, back (and2 o2).1 v2⟩
      · have hx' : ∀ k : Nat, cas[k]? ≠ some (CA.io i) := fun k hk => hx ⟨k, hk⟩
        rw [b2 i hx'] at e
        obtain ⟨v, v1, v2⟩ := S1.sl i s d e
        rw [fpB_no hx']
        exact ⟨v, v1, RepS.mono Tc.ff (ex_refl B) (fun a xs z => Sc.bh a _ (old a (ztup a xs z) _ z)) d s v _ (fun a o hi z => Sc.bh a o (old a (nz i a hi hx') o z)) v2⟩
    · rcases cs i a hi with ⟨k, hk, hm⟩ | ⟨hm, hx'⟩
      · obtain ⟨n1, n2⟩ := Sc.nf k a hm
        refine ⟨n1, ?_⟩
        cases hq : B a with
        | none => rfl
        | some o =>
          rw [eB a o hq] at n2
          cases n2
      · obtain ⟨n1, n2⟩ := S1.nf i a hm
        refine ⟨?_, n2⟩
        cases hq : F' a with
        | none => rfl
        | some o =>
          rcases Tc.fn a o hq with z | z | ⟨k, _, z⟩ | ⟨xs, z⟩
          · rw [n1] at z
            cases z
          · exact ((S1.hd i a hm).some z).elim
          · exact (nz i a hm hx' ((hZa a).mpr ⟨k, z⟩)).elim
          · subst z
            obtain ⟨o', e1, e2⟩ := S1.hd i a hm
            have e3 := Sc.bh a o' (old a (nz i a hm hx') o' e1)
            rw [Sc.fh a _ hq] at e3
            cases e3
            exact e2.elim
    · rcases cs i a hi with ⟨k, hk, hm⟩ | ⟨hm, hx'⟩
      · exact Sc.hd k a hm
      · obtain ⟨o', e1, e2⟩ := S1.hd i a hm
        exact ⟨o', Sc.bh a o' (old a (nz i a hm hx') o' e1), e2⟩
    · by_cases hx : ∃ k : Nat, cas[k]? = some (CA.io i)
      · obtain ⟨k, hk⟩ := hx
        rw [fpB_io hk fun l hl => hu k l i hk hl]
        exact Sc.nd k
      · rw [fpB_no fun k hk => hx ⟨k, hk⟩]
        exact S1.nd i
    · have mix : ∀ {j k : Nat}, a ∈ fps' k → a ∈ fps1 j → (∀ k : Nat, cas[k]? ≠ some (CA.io j)) → False := fun {j k} z1 z2 z3 => by
        by_cases hk : k ∈ List.range n
        · rcases Tc.nw k hk a z1 with z | ⟨l, _, z⟩
          · exact (S1.hd j a z2).some z
          · exact nz j a z2 z3 ((hZa a).mpr ⟨l, z⟩)
        · rw [Tc.sm k hk, n0 k (by simpa using hk)] at z1
          cases z1
      rcases cs i a hi with ⟨k, hk, hm⟩ | ⟨hm, hx'⟩ <;> rcases cs j a hj with ⟨l, hl, hm2⟩ | ⟨hm2, hx2⟩
      · have := Sc.sp k l a hm hm2
        subst this
        rw [hk] at hl
        cases hl
        rfl
      · exact (mix hm hm2 hx2).elim
      · exact (mix hm2 hm hx').elim
      · exact S1.sp i j a hm hm2
    · refine ⟨ex_trans T1.ff Tc.ff, Sc.fh, fun a o e => ?_, fun a o e n => ?_, fun a e => Tc.al a (T1.al a e), fun i hi => ?_, fun i hi a ha => ?_⟩
      · rcases Tc.fn a o e with z | z | ⟨k, _, z⟩ | z
        · exact T1.fn a o z
        · exact .inr (.inl (T1.gone z))
        · rcases bk a (.inr ⟨k, z⟩) with y | y
          · exact .inr (.inl y)
          · exact .inr (.inr (.inl y))
        · exact .inr (.inr (.inr z))
      · have e1 := T1.fr a o e n
        refine Sc.bh a o (old a (fun z => ?_) o e1)
        rcases bk a (.inr ((hZa a).mp z)) with y | ⟨j, hj, y⟩
        · rw [y] at e
          cases e
        · exact n j hj y
      · rw [fpB_no fun k hk => hi (hs i ?_)]
        · exact T1.sm i hi
        · obtain ⟨v, _, z⟩ := R.at_ k _ hk
          exact z.1
      · rcases cs i a ha with ⟨k, hk, hm⟩ | ⟨hm, hx'⟩
        · by_cases hkn : k ∈ List.range n
          · rcases Tc.nw k hkn a hm with z | ⟨l, _, z⟩
            · exact bk a (.inl z)
            · exact bk a (.inr ⟨l, z⟩)
          · rw [Tc.sm k hkn, n0 k (by simpa using hkn)] at hm
            cases hm
        · exact T1.nw i hi a hm
  intro outs env2 H' F' fps' hb Sc Tc
  obtain ⟨S2, T2, cs, bk⟩ := fin hb Sc Tc
  refine ⟨_, S2, T2, fun y u fp hy ry nd nf hd di fv => ?_⟩
  have fv' : ∀ a ∈ fp, H1 a = none ∨ ∃ k, a ∈ fpC fps1 fpl cas k := fun a ha => (fv a ha).elim .inl fun ⟨k, _, z⟩ => .inr ⟨k, z⟩
  have kk : Kp F' B H' (fpB fps1 fps' cas) fp := by
    refine ⟨nd, fun a ha => ⟨(nf a ha).1, ?_⟩, hd, fun a ha i hi => ?_⟩
    · cases hq : B a with
      | none => rfl
      | some o =>
        have := (nf a ha).2
        rw [eB a o hq] at this
        cases this
    · rcases cs i a hi with ⟨k, hk, hm⟩ | ⟨hm, hx'⟩
      · exact di k i hk a ha hm
      · rcases fv' a ha with z | ⟨k, z⟩
        · exact (S1.hd i a hm).some z
        · rcases zin k a z with ⟨j, e, _, z1⟩ | ⟨_, z1⟩
          · have := S1.sp i j a hm z1
            subst this
            exact hx' k e
          · exact (R.kp k).ds a z1 i hm
  exact ⟨fp, RepS.noB (w := w.on []) w.io _ _ _ _ hy ry, kk, fun a ha => bk a (fv' a ha)⟩
theorem exR_on {c : Nat} {fs : List D} {cls : Value} {dx : Option Addr} {l : List (Nat × V)} (xc : ExR (w.on l) c fs cls dx F) : ExR w c fs cls dx F := by
  obtain ⟨x1, x2⟩ := xc
  refine ⟨x1, ?_⟩
  cases fs with
  | nil => exact x2
  | cons d fs =>
    cases fs with
    | nil =>
      obtain ⟨x, f, v, y1, y2, y3⟩ := x2
      exact ⟨x, f, v, y1, y2, Rep.monoL (w := w.on l) w.io (ex_refl _) _ _ y3⟩
    | cons _ _ => exact x2
/-- a call -/
theorem call_go {ef ios : List Nat} {cas : List CA} {vs : List V} {fpl : Nat → List Addr} {f n : Nat} {r : Out SD} {Q : VK} (S1 : Sta w F1 B H1 σ env1 fps1) (T1 : Stp ef F0 H0 fps0 F1 H1 fps1) (R : ArgR w σ ios F1 B H1 fps1 cas vs fpl) (fr : ∀ k, Fr ef H0 fps0 (fpl k))
    (hs : ∀ i ∈ ios, i ∈ ef) (hu : ∀ k l i : Nat, cas[k]? = some (CA.io i) → cas[l]? = some (CA.io i) → l = k) (hn : cas.length = n) (h : doCall cl f cas env1 = some r) (q : Fin w W ef F0 B H0 σ fps0 Q r) : spD (w.on []) n (cl f) vs H1 Q (WE W σ) := by
  obtain ⟨args, ha, h⟩ := Option.bind_eq_some_iff.mp (show ((ioGets env1 cas).bind fun args => match cl f args with
    | some (.ok r outs) => if noB r.1 then (ioBack env1 cas outs).map fun e => Out.ok r e else none
    | some (.ex c fs outs) => (ioBack env1 cas outs).map fun e => Out.ex c fs e
    | none => none) = some r from h)
  obtain ⟨Bc, fpc, S0, n0, fin⟩ := call_gen S1 T1 R fr hs hu hn ha
  cases hc : cl f args with
  | none => rw [hc] at h; cases h
  | some cr =>
    rw [hc] at h
    refine ⟨by rw [R.len, hn], args, F1, Bc, fpc, cr, S0, n0, hc, ?_⟩
    cases cr with
    | ok x outs =>
      obtain ⟨hx, h⟩ := ite_some (show (if noB x.1 = true then (ioBack env1 cas outs).map fun e => Out.ok x e else none) = some r from h)
      obtain ⟨env2, hb, rfl⟩ := Option.map_eq_some_iff.mp h
      intro v H' F' fps' Sc Tc Vc
      obtain ⟨fps2, S2, T2, val⟩ := fin hb Sc Tc
      obtain ⟨fp, rv, kv, fv⟩ := Vc
      exact q v H' F' _ S2 T2 (val x v fp hx rv kv.nd kv.nf kv.hd (fun k i _ a ha => kv.ds a ha k) fv)
    | ex c fs outs =>
      obtain ⟨env2, hb, rfl⟩ := Option.map_eq_some_iff.mp (show (ioBack env1 cas outs).map (fun e => Out.ex c fs e) = some r from h)
      intro cls dx H' F' fps' Sc Tc xc
      obtain ⟨fps2, S2, T2, _⟩ := fin hb Sc Tc
      exact q cls dx H' F' _ S2 T2 (exR_on xc)
/-- a row of arguments minds nothing that is new -/
theorem ArgR.new {ios : List Nat} {cas : List CA} {vs : List V} {fpl : Nat → List Addr} (S : Sta w F1 B H1 σ env1 fps1) (R : ArgR w σ ios F1 B H1 fps1 cas vs fpl) (eh : Ex H1 H2) : ArgR w σ ios F1 B H2 fps1 cas vs fpl := by
  refine ⟨R.len, fun k ca e => ?_, fun k => ?_, R.ds⟩
  · obtain ⟨v, e1, av⟩ := R.at_ k ca e
    refine ⟨v, e1, ?_⟩
    cases ca with
    | io i => exact av
    | val x =>
      rcases av with av | ⟨a1, a2, t, fq, a3, a4⟩
      · exact .inl (RepS.mono (ex_refl _) (ex_refl _) (fun a xs z => eh a _ z) _ _ _ _ (fun a o _ z => eh a o z) av)
      · exact .inr ⟨a1, a2, t, fq, RepS.mono (ex_refl _) (ex_refl _) (fun a xs z => eh a _ z) _ _ _ _ (fun a o _ z => eh a o z) a3, a4⟩
  · exact (R.kp k).step (Stp.new (ef := []) S eh (ex_refl _) (ex_trans S.fh eh) fun _ _ z => .inl z)
/-- a new instance -/
theorem new_gen {ef ios : List Nat} {cas : List CA} {vs : List V} {fpl : Nat → List Addr} {c n : Nat} {args : List SD} {c1 : List SD → Option DI.CR} {xo : SD} {outs : List (Option SD)} {env2 : Env} {Q : VK} {a d : Addr} (S1 : Sta w F1 B H1 σ env1 fps1) (T1 : Stp ef F0 H0 fps0 F1 H1 fps1) (R : ArgR w σ ios F1 B H1 fps1 cas vs fpl) (fr : ∀ k, Fr ef H0 fps0 (fpl k))
    (hs : ∀ i ∈ ios, i ∈ ef) (hu : ∀ k l i : Nat, cas[k]? = some (CA.io i) → cas[l]? = some (CA.io i) → l = k) (hn : cas.length + 1 = n) (ha : ioGets env1 cas = some args) (h1 : H1 a = none) (h2 : H1 d = none) (h3 : d ≠ a)
    (hc : c1 ((.obj [], .obj c []) :: args) = some (.ok (.frz, .non) (some xo :: outs))) (hx : noB xo.1 = true) (hb : ioBack env1 cas outs = some env2)
    (q : ∀ v H' F' fps', Sta w F' B H' σ env2 fps' → Stp ef F0 H0 fps0 F' H' fps' → VO w none ef H0 fps0 F' B H' fps' xo v → Q v H') (E : XK) :
    spD (w.on []) n c1 (.ref a :: vs) (upd (upd H1 d (.own a)) a (.ins (w.ca c) d [])) (fun v H2 => v = .non ∧ Q (.ref a) H2) E := by
  have h1' : (upd H1 d (.own a)) a = none := by
    rw [upd_ne fun z => h3 z.symm]
    exact h1
  generalize hH : upd (upd H1 d (.own a)) a (.ins (w.ca c) d []) = H2
  have eh : Ex H1 H2 := by
    rw [← hH]
    exact ex_trans (ex_upd h2) (ex_upd h1')
  have ga : H2 a = some (.ins (w.ca c) d []) := by rw [← hH]; exact upd_same
  have gd : H2 d = some (.own a) := by rw [← hH, upd_ne h3]; exact upd_same
  have S2 : Sta w F1 B H2 σ env1 fps1 := S1.new eh (ex_refl _) (ex_trans S1.fh eh) fun _ _ z => .inl z
  have T2 : Stp ef F0 H0 fps0 F1 H2 fps1 := T1.trans (Stp.new S1 eh (ex_refl _) (ex_trans S1.fh eh) fun _ _ z => .inl z)
  have ro : RepS w F1 B H2 (.obj c []) (.obj []) (.ref a) [a, d] := ⟨a, d, [], [], rfl, rfl, ga, gd, rfl, rfl⟩
  have two : ∀ b ∈ [a, d], H1 b = none := fun b hb => by
    rcases List.mem_cons.mp hb with rfl | hb
    · exact h1
    · rw [List.mem_singleton.mp hb]
      exact h2
  have ko : Kp F1 B H2 fps1 [a, d] := by
    refine ⟨by simp [Ne.symm h3], fun b hb => ⟨ex_none S1.fh (two b hb), ex_none S1.bh (two b hb)⟩, RepS.held _ _ _ _ ro, fun b hb i hi => (S1.hd i b hi).some (two b hb)⟩
  have R2 := argR_cons (ca := .val (.obj [], .obj c [])) (.inl ro) ko (fun b hb l hl => ((R.kp l).hd b hl).some (two b hb)) (R.new S1 eh)
  have fr2 : ∀ k, Fr ef H0 fps0 (shf [a, d] fpl k) := fun k => by
    cases k with
    | zero => exact fun b hb => .inl (T1.gone (two b hb))
    | succ k => exact fr k
  have ha2 : ioGets env1 (.val (.obj [], .obj c []) :: cas) = some ((.obj [], .obj c []) :: args) := by
    show (some (Sh.obj [], D.obj c [])).bind (fun x => (ioGets env1 cas).map fun xs => x :: xs) = _
    rw [ha]
    rfl
  have hu2 : ∀ k l i : Nat, (CA.val (.obj [], .obj c []) :: cas)[k]? = some (CA.io i) → (CA.val (.obj [], .obj c []) :: cas)[l]? = some (CA.io i) → l = k := fun k l i hk hl => by
    cases k with
    | zero => cases hk
    | succ k =>
      cases l with
      | zero => cases hl
      | succ l => rw [hu k l i hk hl]
  obtain ⟨Bc, fpc, S0, n0, fin⟩ := call_gen (n := n) S2 T2 R2 fr2 hs hu2 (by rw [List.length_cons, hn]) ha2
  refine ⟨by rw [List.length_cons, R.len, hn], _, F1, Bc, fpc, _, S0, n0, hc, ?_⟩
  intro v H' F' fps' Sc Tc Vc
  obtain ⟨fps2, S3, T3, val⟩ := fin (env2 := env2) (show ioBack env1 (.val (.obj [], .obj c []) :: cas) (some xo :: outs) = some env2 from hb) Sc Tc
  obtain ⟨fp, rv, _, _⟩ := Vc
  refine ⟨(RepS_frz.mp rv).1, ?_⟩
  obtain ⟨v0, e0, r0⟩ := Sc.sl 0 xo.1 xo.2 rfl
  cases e0
  refine q _ H' F' fps2 S3 T3 (val xo _ (fps' 0) hx r0 (Sc.nd 0) (Sc.nf 0) (Sc.hd 0) (fun k i hk b hb hb2 => ?_) fun b hb => Tc.nw 0 (List.mem_range.mpr (by omega)) b hb)
  have := Sc.sp 0 k b hb hb2
  subst this
  cases hk
end
end DI
/-! DI9d: calls, methods, new instances as expressions. -/
namespace DI
open PySem L2 PySem.Spec PyProof.Rows
variable {F F' F0 F1 F2 B B' H H' H0 H1 H2 : Hp} {σ σ1 : L2.St} {env env1 env2 : DI.Env} {fps fps' fps0 fps1 fps2 : Nat → List Addr}
/-- what stands behind the names that are called -/
structure CallsOk (X : Cx) (g : Gam) (w : Wd) (sg : Sig) (cl : Calls) : Prop where
  fn : ∀ f, g.fk f = true → ∃ a fd ps k gdf, X.mg (g.defs f) = some (.ref a) ∧ PySem.W.keepIn X.K (.ref a) = true ∧ Binds X.K fd ps [] ∧ Room k X.A ∧ (gdf = true → X.A.guards = some []) ∧
    FnG gdf X.prog X.w X.K X.mg X.base (L2.CX X.prog X.w) k a fd ps (spD (w.on []) (sg.modes f).length (cl f))
  mt : ∀ c f, g.mm c f = true → ∃ a fd ps k gdf, Cls X.K (w.ca c) ∧ Meth X.K (w.ca c) (g.defs f) a ∧ (∀ z, sg.gd c z = true → w.fn z ≠ g.defs f) ∧ Binds X.K fd ps [] ∧ Room k X.A ∧ (gdf = true → X.A.guards = some []) ∧
    FnG gdf X.prog X.w X.K X.mg X.base (L2.CX X.prog X.w) k a fd ps (spD (w.on []) (sg.modes f).length (cl f))
  nk : ∀ c, g.nk c = true → ∃ a fd ps k ms, Mk X.K (w.ca c) a ∧ X.mg (g.cls c) = some (.ref (w.ca c)) ∧ Binds X.K fd ps [] ∧ Room (k + 1) X.A ∧ sg.modes (sg.init c) = .io :: ms ∧
    FnG false X.prog X.w X.K X.mg X.base (L2.CX X.prog X.w) k a fd ps (spD (w.on []) (sg.modes (sg.init c)).length (cl (sg.init c)))
section
variable {X : Cx} {g : Gam} {w : Wd} {sg : Sig} {cl : Calls} {W : WX}
theorem evC_io : ∀ {ms : List Md} {as : Es} {env env' : DI.Env} {cas : List CA}, evC sg cl ms as env = some (.ok cas env') → cas.length = ms.length ∧ ∀ (k i : Nat), cas[k]? = some (CA.io i) → i ∈ ioRoots ms as
  | [], .nil, env, env', cas, h => by
    cases h
    exact ⟨rfl, fun k i h => by cases h⟩
  | m :: ms, .nil, env, env', cas, h => by cases m <;> cases h
  | [], .cons e es, env, env', cas, h => by cases h
  | m :: ms, .cons e es, env, env', cas, h => by
    have val : (M.bind (ev sg cl e) fun x => M.bind (M.opt (argAs e m x)) fun ca => M.bind (evC sg cl ms es) fun cas => M.pure (ca :: cas)) env = some (.ok cas env') → (∀ i, i ∈ ioRoots ms es → i ∈ ioRoots (m :: ms) (.cons e es)) → cas.length = (m :: ms).length ∧ ∀ (k i : Nat), cas[k]? = some (CA.io i) → i ∈ ioRoots (m :: ms) (.cons e es) := fun h sub => by
      rcases bind_ok h with ⟨x, env1, h1, h2⟩ | ⟨_, _, _, _, z⟩
      · obtain ⟨ca, hca, h3⟩ := opt_of' h2
        rcases bind_ok h3 with ⟨cas', env2, h4, h5⟩ | ⟨_, _, _, _, z⟩
        · cases pure_ok h5
          obtain ⟨l1, l2⟩ := evC_io h4
          refine ⟨by rw [List.length_cons, List.length_cons, l1], fun k i hk => ?_⟩
          cases k with
          | zero =>
            have hk' : some ca = some (CA.io i) := hk
            cases hk'
            exfalso
            unfold argAs at hca
            split at hca
            · split at hca
              · cases hca
              · split at hca <;> cases hca
            · obtain ⟨_, _, z⟩ := Option.map_eq_some_iff.mp hca
              cases z
            · obtain ⟨_, _, z⟩ := Option.map_eq_some_iff.mp hca
              cases z
            · cases hca
          | succ k => exact sub i (l2 k i hk)
        · cases z
      · cases z
    cases m with
    | io =>
      have keep : ∀ (e : E), (∀ i, e ≠ .pl (.var i)) → evC sg cl (.io :: ms) (.cons e es) env = some (.ok cas env') → False := fun e hn h => by
        have h' : (M.bind (ev sg cl e) fun x => M.bind (M.opt (argAs e .io x)) fun ca => M.bind (evC sg cl ms es) fun cas => M.pure (ca :: cas)) env = some (.ok cas env') := by
          cases e <;> first | exact h | skip
          rename_i p
          cases p <;> first | exact h | exact absurd rfl (hn _)
        rcases bind_ok h' with ⟨x, env1, h1, h2⟩ | ⟨_, _, _, _, z⟩
        · obtain ⟨ca, hca, h3⟩ := opt_of' h2
          cases hca
        · cases z
      by_cases hx : ∃ i, e = .pl (.var i)
      · obtain ⟨i, rfl⟩ := hx
        rcases bind_ok (show M.bind (getV i) (fun _ => M.bind (evC sg cl ms es) fun cas => M.pure (CA.io i :: cas)) env = some (.ok cas env') from h) with ⟨x, env1, h1, h2⟩ | ⟨_, _, _, _, z⟩
        · rcases bind_ok h2 with ⟨cas', env2, h4, h5⟩ | ⟨_, _, _, _, z⟩
          · cases pure_ok h5
            obtain ⟨l1, l2⟩ := evC_io h4
            refine ⟨by rw [List.length_cons, List.length_cons, l1], fun k j hk => ?_⟩
            cases k with
            | zero =>
              have hk' : some (CA.io i) = some (CA.io j) := hk
              cases hk'
              exact .head _
            | succ k => exact .tail _ (l2 k j hk)
          · cases z
        · cases z
      · exact (keep e (fun i hi => hx ⟨i, hi⟩) h).elim
    | bor => exact val h fun i hi => hi
    | frz => exact val h fun i hi => hi
    | own s => exact val h fun i hi => hi
theorem evC_uniq {ios : List Nat} : ∀ {ms : List Md} {as : Es} {env env' : DI.Env} {cas : List CA}, wfC sg ios ms as = true → evC sg cl ms as env = some (.ok cas env') → ∀ (k l i : Nat), cas[k]? = some (CA.io i) → cas[l]? = some (CA.io i) → l = k
  | [], .nil, env, env', cas, _, h => by
    cases h
    exact fun k l i h => by cases h
  | m :: ms, .nil, env, env', cas, _, h => by cases m <;> cases h
  | [], .cons e es, env, env', cas, _, h => by cases h
  | m :: ms, .cons e es, env, env', cas, wf, h => by
    have wf2 : wfC sg ios ms es = true := by cases m <;> exact (and2 wf).2
    -- the row behind
    have tail : ∃ ca cas' env1 env2, cas = ca :: cas' ∧ evC sg cl ms es env1 = some (.ok cas' env2) ∧ ∀ i, ca = .io i → i ∉ ioRoots ms es := by
      cases m with
      | io =>
        by_cases hx : ∃ i, e = .pl (.var i)
        · obtain ⟨i, rfl⟩ := hx
          rcases bind_ok (show M.bind (getV i) (fun _ => M.bind (evC sg cl ms es) fun cas => M.pure (CA.io i :: cas)) env = some (.ok cas env') from h) with ⟨x, env1, h1, h2⟩ | ⟨_, _, _, _, z⟩
          · rcases bind_ok h2 with ⟨cas', env2, h4, h5⟩ | ⟨_, _, _, _, z⟩
            · cases pure_ok h5
              refine ⟨_, _, _, _, rfl, h4, fun j e hj => ?_⟩
              cases e
              have wf1' : (!(ioRoots ms es).contains i) = true := (and2 wf).1
              rw [List.contains_iff_mem.mpr hj] at wf1'
              cases wf1'
            · cases z
          · cases z
        · exfalso
          have h' : (M.bind (ev sg cl e) fun x => M.bind (M.opt (argAs e .io x)) fun ca => M.bind (evC sg cl ms es) fun cas => M.pure (ca :: cas)) env = some (.ok cas env') := by
            cases e <;> first | exact h | skip
            rename_i p
            cases p <;> first | exact h | exact (hx ⟨_, rfl⟩).elim
          rcases bind_ok h' with ⟨x, env1, h1, h2⟩ | ⟨_, _, _, _, z⟩
          · obtain ⟨ca, hca, h3⟩ := opt_of' h2
            cases hca
          · cases z
      | _ =>
        rcases bind_ok (show (M.bind (ev sg cl e) fun x => M.bind (M.opt (argAs e _ x)) fun ca => M.bind (evC sg cl ms es) fun cas => M.pure (ca :: cas)) env = some (.ok cas env') from h) with ⟨x, env1, h1, h2⟩ | ⟨_, _, _, _, z⟩
        · obtain ⟨ca, hca, h3⟩ := opt_of' h2
          rcases bind_ok h3 with ⟨cas', env2, h4, h5⟩ | ⟨_, _, _, _, z⟩
          · cases pure_ok h5
            refine ⟨_, _, _, _, rfl, h4, fun j e => ?_⟩
            subst e
            exfalso
            unfold argAs at hca
            dsimp only at hca
            first
              | (split at hca
                 · cases hca
                 · split at hca <;> cases hca)
              | (obtain ⟨_, _, z⟩ := Option.map_eq_some_iff.mp hca
                 cases z)
          · cases z
        · cases z
    obtain ⟨ca, cas', env1, env2, rfl, h4, hn⟩ := tail
    obtain ⟨_, m2⟩ := evC_io h4
    have ih := evC_uniq wf2 h4
    intro k l i hk hl
    cases k <;> cases l
    · rfl
    · exact (hn i (Option.some.inj hk) (m2 _ i hl)).elim
    · exact (hn i (Option.some.inj hl) (m2 _ i hk)).elim
    · rw [ih _ _ i hk hl]
theorem io_eff : ∀ {ms : List Md} {as : Es}, ∀ i ∈ ioRoots ms as, i ∈ effC sg ms as
  | [], .nil, i, h => by cases h
  | m :: ms, .nil, i, h => by cases m <;> cases h
  | [], .cons e es, i, h => by cases h
  | m :: ms, .cons e es, i, h => by
    cases m with
    | io =>
      cases e <;> first | exact List.mem_append_right _ (io_eff i h) | skip
      rename_i p
      rcases List.mem_cons.mp (show i ∈ p.root :: ioRoots ms es from h) with rfl | h
      · exact List.mem_append_left _ (.head _)
      · exact List.mem_append_right _ (io_eff i h)
    | _ => exact List.mem_append_right _ (io_eff i h)
theorem call_rd {f : Nat} {as : Es} {Q : VK} (wf : wfC sg (ioRoots (sg.modes f) as) (sg.modes f) as = true) (h : tE w sg cl W (.call f as) σ H Q) :
    tCa w sg cl W (ioRoots (sg.modes f) as) (sg.modes f) as σ H fun vs H1 => spD (w.on []) (sg.modes f).length (cl f) vs H1 Q (WE W σ) := by
  obtain ⟨env, F, B, fps, r, S, he, q⟩ := h
  rcases bind_ok (show M.bind (evC sg cl (sg.modes f) as) (fun cas => doCall cl f cas) env = some r from he) with ⟨cas, env1, h1, h2⟩ | ⟨c, fs, env1, h1, rfl⟩
  · exact ⟨env, F, B, fps, _, S, h1, fun vs H1 F1 fps1 fpl S1 T1 R1 Fr1 => call_go (W := W) S1 T1 R1 Fr1 io_eff (evC_uniq wf h1) (evC_io h1).1 h2 q⟩
  · exact ⟨env, F, B, fps, _, S, h1, q⟩
theorem c_callE (C : Ctx X g w sg W) (K : CallsOk X g w sg cl) {f : Nat} {as : Es} {x : Str} {args : List Expr} {p pos : Pos} (hf : g.fk f = true) (hx : g.glo x (g.defs f) = true) (wf : wfC sg (ioRoots (sg.modes f) as) (sg.modes f) as = true)
    (h0 : args = [] → as = .nil) (hs : args.all notStar = true) (ha : PA X args (tCa w sg cl W (ioRoots (sg.modes f) as) (sg.modes f) as)) : PE X (.Call (.Name x p) args [] pos) (tE w sg cl W (.call f as)) := by
  obtain ⟨rfl, g2, g3, g4⟩ := glo_ok C hx
  obtain ⟨a, fd, ps, k, gdf, k1, k2, k3, k4, k5, k6⟩ := K.fn f hf
  refine ⟨fun pins s σ H Q I h => ?_⟩
  have h' := call_rd wf h
  refine wpAny_Call_Name_kw (ld_glob I g2 k1 ?_ g3)
  cases args with
  | nil =>
    have e := h0 rfl
    subst e
    exact PySem.W.callWith_K0 I.kIn k2 (run_fnG (E := WE W) (us := []) k6 k5 k4 k3 (passAt C.tk σ) I .nil (tCa_nil h'))
  | cons e es =>
    obtain ⟨n1, n2⟩ := and2 (show (notStar e && es.all notStar) = true from hs)
    refine PySem.W.callWith_K (h₀ := X.base) I.ok.mod.kin k2 (thn (ha.run pos pins s σ H _ I h') fun us s1 ⟨vs, H1, I1, r, q⟩ => ⟨I1.kIn, ?_⟩) (star_ne n1 _ _) (star_all n2 _ _)
    exact run_fnG (E := WE W) k6 k5 k4 k3 (passAt C.tk σ) I1 r q
end
end DI
/-! DI9e: methods, new instances as expressions. -/
namespace DI
open PySem L2 PySem.Spec PyProof.Rows
variable {F F' F0 F1 F2 B B' H H' H0 H1 H2 : Hp} {σ σ1 : L2.St} {env env1 env2 : DI.Env} {fps fps' fps0 fps1 fps2 : Nat → List Addr}
section
variable {X : Cx} {g : Gam} {w : Wd} {sg : Sig} {cl : Calls} {W : WX}
theorem repF_no {m : Str} : ∀ {fs : List (Nat × D)} {ws : List (Str × V)}, (∀ z ∈ fs, w.fn z.1 ≠ m) → RepF w F fs ws → ws.lookup m = none
  | [], _, _, h => by cases h; rfl
  | (f, d) :: fs, _, hn, h => by
    obtain ⟨v, q, rfl, _, h2⟩ := h
    rw [List.lookup_cons, beq_eq_false_iff_ne.mpr fun e => hn (f, d) (.head _) e.symm]
    exact repF_no (fun z hz => hn z (.tail _ hz)) h2
def tMc (w : Wd) (sg : Sig) (cl : Calls) (W : WX) (c f : Nat) (m : Str) (o : E) (ms : List Md) (as : Es) : TE := fun σ H Q => tE w sg cl W o σ H fun x H1 => ∃ a dx fs, x = .ref a ∧ H1 a = some (.ins (w.ca c) dx fs) ∧ fs.lookup m = none ∧
  tCa w sg cl W (ioRoots ms as) ms as σ H1 fun vs H2 => spD (w.on []) (ms.length + 1) (cl f) (x :: vs) H2 Q (WE W σ)
theorem mcall_rd {c f : Nat} {nm : Str} {o : E} {m : Md} {ms : List Md} {as : Es} {Q : VK} (hm : sg.modes f = m :: ms) (hn : ∀ z, sg.gd c z = true → w.fn z ≠ nm) (wf : (out o.root (effC sg ms as) && (out o.root (ioRoots ms as) && wfC sg (ioRoots ms as) ms as)) = true) (h : tE w sg cl W (.mcall c f o as) σ H Q) :
    tMc w sg cl W c f nm o ms as σ H Q := by
  obtain ⟨wf1, wf⟩ := and2 wf
  obtain ⟨wf2, wf3⟩ := and2 wf
  obtain ⟨env, F, B, fps, r, S, he, q⟩ := h
  have he' : (M.bind (ev sg cl o) fun x => match x.2 with
      | .obj d fs => if (decide (d = c) && fs.all (fun z => sg.gd c z.1)) = true then M.bind (M.opt (argAs o m x)) fun ca => M.bind (evC sg cl ms as) fun cas => doCall cl f (ca :: cas) else M.stuck
      | _ => M.stuck) env = some r := by
    simp only [ev] at he
    rw [hm] at he
    exact he
  have hef : effE sg (.mcall c f o as) = effE sg o ++ effC sg ms as := by
    simp only [effE]
    rw [hm]
  rw [hef] at q
  rcases bind_ok he' with ⟨x, env1, h1, h2⟩ | ⟨c', fs, env1, h1, rfl⟩
  · refine ⟨env, F, B, fps, _, S, h1, fun v H1 F1 fps1 S1 T1 V1 => ?_⟩
    obtain ⟨s, d⟩ := x
    cases d <;> first | (cases h2; done) | skip
    rename_i d fs
    have h2' : (if (decide (d = c) && fs.all (fun z => sg.gd c z.1)) = true then M.bind (M.opt (argAs o m (s, .obj d fs))) fun ca => M.bind (evC sg cl ms as) fun cas => doCall cl f (ca :: cas) else M.stuck) env1 = some r := h2
    obtain ⟨hc, h3⟩ : (decide (d = c) && fs.all (fun z => sg.gd c z.1)) = true ∧ (M.bind (M.opt (argAs o m (s, .obj d fs))) fun ca => M.bind (evC sg cl ms as) fun cas => doCall cl f (ca :: cas)) env1 = some r := by
      split at h2'
      · exact ⟨by assumption, h2'⟩
      · cases h2'
    obtain ⟨hc1, hc2⟩ := and2 hc
    have ec := of_decide_eq_true hc1
    subst ec
    obtain ⟨ca, hca, h4⟩ := opt_of' h3
    obtain ⟨fp, rv, kv⟩ := V1
    obtain ⟨a, dx, ws, e1, e2, e3, e4⟩ := RepS.all S1.fh S1.bh _ _ _ _ rv
    refine ⟨a, dx, ws, e1, e2, repF_no (fun z hz => hn z.1 (List.all_eq_true.mp hc2 z hz)) e4, ?_⟩
    obtain ⟨F2, f1, S2, T2, K2, Fr2, hy⟩ := argAs_ok hca wf2 S1 T1 ⟨fp, rv, kv⟩
    rcases bind_ok h4 with ⟨cas, env2, h5, h6⟩ | ⟨c', fs', env2, h5, rfl⟩
    · refine ⟨env1, F2, B, fps1, _, S2, h5, fun vs H3 F3 fps3 fpl S3 T3 R3 Fr3 => ?_⟩
      have K3 := K2.step T3
      refine call_go (W := W) (ef := effE sg o ++ effC sg ms as) (ios := ioRoots ms as) (fpl := shf f1 fpl) S3 ((T2.weak mem_l).trans (T3.weak mem_r)) (argR_cons (ArgV.step S2 T3 K2 hy (out_ok wf1)) K3 (fun b hb l hl => ?_) R3) (fun k => ?_) (fun i hi => mem_r i (io_eff i hi)) (fun k l i hk hl => ?_) (by rw [List.length_cons, (evC_io h5).1]) h6 q
      · rcases Fr3 l b hl with z | ⟨j, _, z⟩
        · exact (K2.hd b hb).some z
        · exact K2.ds b hb j z
      · cases k with
        | zero => exact Fr2.weak mem_l
        | succ k => exact Fr.back (T2.weak mem_l) ((Fr3 k).weak mem_r)
      · obtain ⟨y, rfl, _⟩ := hy
        cases k with
        | zero => cases hk
        | succ k =>
          cases l with
          | zero => cases hl
          | succ l => rw [evC_uniq wf3 h5 k l i hk hl]
    · exact ⟨env1, F2, B, fps1, _, S2, h5, fun cls dx H3 F3 fps3 S3 T3 x3 => q cls dx H3 F3 fps3 S3 ((T2.weak mem_l).trans (T3.weak mem_r)) x3⟩
  · exact ⟨env, F, B, fps, _, S, h1, fun cls dx H1 F1 fps1 S1 T1 x1 => q cls dx H1 F1 fps1 S1 (T1.weak mem_l) x1⟩
theorem meth_ht {o : Expr} {m : Str} {args : List Expr} {apos pos : Pos} (hb : baseOk o = true) (hs : args.all notStar = true) (hl : (apos.endLine == pos.line) = true) (hn : args.length < 29) (en : PySem.Env) :
    ∃ pl : Sem Bool, eval (.Call (.Attribute o m apos) args [] pos) en = (do
      let ov ← eval o en
      standAt apos.atName
      let (f, first) ← holding [ov] (getMethod ov m pl)
      callWith pos f first (backTo pos (starEach args en)) (backToKw pos (keywordEach [] en))) := by
  refine ⟨do return (← importBound o en).getD true, ?_⟩
  have hform : methodCallForm (args.length + ([] : List Keyword).length) (backTo pos (starEach args en)) (backToKw pos (keywordEach [] en)) = true := by
    unfold methodCallForm
    rw [star_all' hs]
    show (true && true && decide (args.length + 0 + 0 < 30)) = true
    rw [decide_eq_true (show args.length + 0 + 0 < 30 by omega)]
    rfl
  rw [arm_eval_Call, base_ok hb]
  unfold methodCall calleeOf methodCallPos
  rw [hform]
  simp only [hl, if_true, Bool.not_true, Bool.or_true]
  rfl
theorem c_mcallE (C : Ctx X g w sg W) (K : CallsOk X g w sg cl) {c f : Nat} {o : E} {as : Es} {l : Expr} {m : Str} {md : Md} {ms : List Md} {args : List Expr} {apos pos : Pos} (hf : g.mm c f = true) (hm : m = g.defs f) (hmd : sg.modes f = md :: ms)
    (wf : (out o.root (effC sg ms as) && (out o.root (ioRoots ms as) && wfC sg (ioRoots ms as) ms as)) = true) (hb : baseOk l = true) (hl : (apos.endLine == pos.line) = true) (hn : args.length < 29)
    (h0 : args = [] → as = .nil) (hs : args.all notStar = true) (ho : PE X l (tE w sg cl W o)) (ha : PA X args (tCa w sg cl W (ioRoots ms as) ms as)) : PE X (.Call (.Attribute l m apos) args [] pos) (tE w sg cl W (.mcall c f o as)) := by
  subst hm
  obtain ⟨a0, fd, ps, k, gdf, k1, k2, k3, k4, k5, k6, k7⟩ := K.mt c f hf
  obtain ⟨pl, ht⟩ := meth_ht (m := g.defs f) (apos := apos) (pos := pos) hb hs hl hn X.env
  refine ⟨fun pins s σ H Q I h => ?_⟩
  have h' := mcall_rd hmd k3 wf h
  refine PySem.W.methodCall_KW (pl := pl) (thn (ho.run pins s σ H _ I h') fun u s1 ⟨x, H1, I1, rx, a, dx, fs, ex, ea, lk, q⟩ => ?_) ht
  subst ex
  obtain rfl : u = Value.ref a := rx
  refine getmeth_ok I1 ea k1 k2 lk ?_
  have k7' : FnG gdf X.prog X.w X.K X.mg X.base (L2.CX X.prog X.w) k a0 fd ps (spD (w.on []) (ms.length + 1) (cl f)) := by
    rw [hmd] at k7
    exact k7
  cases args with
  | nil =>
    have e := h0 rfl
    subst e
    exact PySem.W.callWith_K0 (first := [.ref a]) I1.kIn k2.kp (run_fnG (E := WE W) (us := [.ref a]) (vs := [.ref a]) k7' k6 k5 k4 (passAt C.tk σ) I1 (.cons rfl .nil) (tCa_nil q))
  | cons e es =>
    obtain ⟨n1, n2⟩ := and2 (show (notStar e && es.all notStar) = true from hs)
    refine PySem.W.callWith_K (first := [.ref a]) (h₀ := X.base) I.ok.mod.kin k2.kp (thn (ha.run pos pins s1 σ H1 _ I1 q) fun us s2 ⟨vs, H2, I2, r, q2⟩ => ⟨I2.kIn, ?_⟩) (star_ne n1 _ _) (star_all n2 _ _)
    exact run_fnG (E := WE W) (us := .ref a :: us) (vs := .ref a :: vs) k7' k6 k5 k4 (passAt C.tk σ) I2 (.cons rfl r) q2
/-! ### new instances -/
def tMk (w : Wd) (sg : Sig) (cl : Calls) (W : WX) (c : Nat) (ms : List Md) (as : Es) : TE := fun σ H Q => tCa w sg cl W (ioRoots ms as) ms as σ H fun vs H1 => ∀ x dx, H1 x = none → H1 dx = none → dx ≠ x →
  spD (w.on []) (ms.length + 1) (cl (sg.init c)) (.ref x :: vs) (upd (upd H1 dx (.own x)) x (.ins (w.ca c) dx [])) (fun v H2 => v = .non ∧ Q (.ref x) H2) (WE W σ)
theorem new_rd {c : Nat} {ms : List Md} {as : Es} {Q : VK} (hm : sg.modes (sg.init c) = .io :: ms) (wf : wfC sg (ioRoots ms as) ms as = true) (h : tE w sg cl W (.new c as) σ H Q) : tMk w sg cl W c ms as σ H Q := by
  obtain ⟨env, F, B, fps, r, S, he, q⟩ := h
  have he' : (M.bind (evC sg cl ms as) fun cas => fun env => (ioGets env cas).bind fun args => match cl (sg.init c) ((.obj [], .obj c []) :: args) with
      | some (.ok (.frz, .non) (some x :: outs)) => if x.1.given = true then (ioBack env cas outs).map fun e => Out.ok x e else none
      | _ => none) env = some r := by
    simp only [ev] at he
    rw [hm] at he
    exact he
  have hef : effE sg (.new c as) = effC sg ms as := by
    simp only [effE]
    rw [hm]
    rfl
  rw [hef] at q
  rcases bind_ok he' with ⟨cas, env1, h1, h2⟩ | ⟨c', fs, env1, h1, rfl⟩
  · refine ⟨env, F, B, fps, _, S, h1, fun vs H1 F1 fps1 fpl S1 T1 R1 Fr1 x dx x1 x2 x3 => ?_⟩
    obtain ⟨args, ha, h3⟩ := Option.bind_eq_some_iff.mp h2
    split at h3
    · rename_i xo outs hc
      obtain ⟨hx, h3⟩ := ite_some h3
      obtain ⟨env2, hb, rfl⟩ := Option.map_eq_some_iff.mp h3
      exact new_gen S1 T1 R1 Fr1 io_eff (evC_uniq wf h1) (by rw [(evC_io h1).1]) ha x1 x2 x3 hc (and2 hx).1 hb q _
    · cases h3
  · exact ⟨env, F, B, fps, _, S, h1, q⟩
theorem run_makeG {C f : Addr} {fd : FuncData} {ps : List Str} {sp : Sp} {E : XK} {k : Nat} {pins : List (Addr × Obj)} {s : Shared} {Q : VK} {us : List Value} {vs : List V} (M : Mk X.K C f) (F : FnG false X.prog X.w X.K X.mg X.base (L2.CX X.prog X.w) k f fd ps sp) (hr : Room (k + 1) X.A) (hb : Binds X.K fd ps [])
    (hx : PassesAt (L2.CX X.prog X.w) X σ E) (I : L2.Inv X pins σ H s) (r : Vals vs us)
    (h : ∀ x dx, H x = none → H dx = none → dx ≠ x → sp (.ref x :: vs) (upd (upd H dx (.own x)) x (.ins C dx [])) (fun v H2 => v = .non ∧ Q (.ref x) H2) E) :
    wpAny (model X.prog X.w) X.A (call (.ref C) us) (EP X pins σ Q) X.xe s := by
  have hq := h (s.heap.objs.size + 1) s.heap.objs.size (I.hok.fresh (Nat.le_succ _)) (I.hok.fresh (Nat.le_refl _)) (Nat.ne_of_lt (Nat.lt_succ_self _))
  have I2 := Inv.made (C := C) I
  have r2 : Vals (V.ref (s.heap.objs.size + 1) :: vs) (Value.ref (s.heap.objs.size + 1) :: us) := .cons rfl r
  have hl : (Value.ref (s.heap.objs.size + 1) :: us).length = ps.length := by
    have e := r2.length
    rw [F.len _ _ _ _ hq] at e
    exact e.symm
  have b := hb _ (Value.ref (s.heap.objs.size + 1) :: us) I2.kIn (by rw [List.append_nil]; exact hl)
  rw [List.append_nil] at b
  refine wpAny_call (make_map (f := f) I.kIn M.makes M.init (beq_iff_eq.mp M.fn) (codeAny_mono (F.ok.run _ X.stack _ _ ⟨Value.ref (s.heap.objs.size + 1) :: us, []⟩ (Value.ref (s.heap.objs.size + 1) :: us) _ _ E (hr.make C us [])
    (I2.env0.make C us []) b r2 hq) fun r s' hq' => ?_))
  cases r with
  | error e => exact hx pins _ _ e s' I2 hq'
  | ok fl =>
    cases fl with
    | ret u =>
      obtain ⟨v, H', I3, rv, ev, q3⟩ := I2.after hq'
      subst ev
      exact ⟨rv, ⟨V.ref (s.heap.objs.size + 1), H', I3, rfl, q3⟩⟩
    | next => exact False.elim hq'
    | brk => exact False.elim hq'
    | cont => exact False.elim hq'
theorem c_newE (C : Ctx X g w sg W) (K : CallsOk X g w sg cl) {c : Nat} {as : Es} {x : Str} {args : List Expr} {p pos : Pos} (hf : g.nk c = true) (hx : g.glo x (g.cls c) = true) (wf : wfC sg (ioRoots ((sg.modes (sg.init c)).drop 1) as) ((sg.modes (sg.init c)).drop 1) as = true)
    (h0 : args = [] → as = .nil) (hs : args.all notStar = true) (ha : PA X args (tCa w sg cl W (ioRoots ((sg.modes (sg.init c)).drop 1) as) ((sg.modes (sg.init c)).drop 1) as)) : PE X (.Call (.Name x p) args [] pos) (tE w sg cl W (.new c as)) := by
  obtain ⟨rfl, g2, g3, g4⟩ := glo_ok C hx
  obtain ⟨a, fd, ps, k, ms, k1, k2, k3, k4, k5, k6⟩ := K.nk c hf
  rw [k5] at wf ha k6
  have wf : wfC sg (ioRoots ms as) ms as = true := wf
  have ha : PA X args (tCa w sg cl W (ioRoots ms as) ms as) := ha
  refine ⟨fun pins s σ H Q I h => ?_⟩
  have h' := new_rd k5 wf h
  refine wpAny_Call_Name_kw (ld_glob I g2 k2 ?_ g3)
  cases args with
  | nil =>
    have e := h0 rfl
    subst e
    exact PySem.W.callWith_K0 I.kIn k1.kp (run_makeG (us := []) k1 k6 k4 k3 (passAt C.tk σ) I .nil (tCa_nil h'))
  | cons e es =>
    obtain ⟨n1, n2⟩ := and2 (show (notStar e && es.all notStar) = true from hs)
    refine PySem.W.callWith_K (h₀ := X.base) I.ok.mod.kin k1.kp (thn (ha.run pos pins s σ H _ I h') fun us s1 ⟨vs, H1, I1, r, q⟩ => ⟨I1.kIn, ?_⟩) (star_ne n1 _ _) (star_all n2 _ _)
    exact run_makeG k1 k6 k4 k3 (passAt C.tk σ) I1 r q
end
end DI
/-! DI9f: list comprehensions. -/
namespace DI
open PySem L2
variable {F F' F0 F1 F2 B B' H H' H0 H1 H2 : Hp} {σ σ1 : L2.St} {env env1 env2 : Env} {fps fps' fps0 fps1 fps2 : Nat → List Addr}
/-! ### slots wiped -/
theorem wipe_get (σ : L2.St) (i : Nat) : ∀ vs : List Nat, (L2.wipe σ vs)[i]? = if i ∈ vs then (σ[i]?).map (fun _ => none) else σ[i]?
  | [] => by simp [L2.wipe]
  | v :: vs => by
    unfold L2.wipe
    rw [List.getElem?_set]
    by_cases h : v = i
    · subst h
      rw [if_pos rfl, if_pos (List.mem_cons_self), L2.wipe_length]
      by_cases hl : v < σ.length
      · rw [if_pos hl, List.getElem?_eq_getElem hl]
        rfl
      · rw [if_neg hl, List.getElem?_eq_none (by omega)]
        rfl
    · rw [if_neg h, wipe_get σ i vs]
      by_cases hm : i ∈ vs
      · rw [if_pos hm, if_pos (List.mem_cons_of_mem _ hm)]
      · rw [if_neg hm, if_neg fun z => (List.mem_cons.mp z).elim (fun e => h e.symm) hm]
theorem fold_len {f : Nat → Option SD} : ∀ (own : List Nat) (e : Env), (own.foldl (fun e' i => e'.set i (f i)) e).length = e.length
  | [], _ => rfl
  | v :: vs, e => by
    rw [List.foldl_cons, fold_len vs, List.length_set]
theorem fold_get {f : Nat → Option SD} (i : Nat) : ∀ (own : List Nat) (e : Env), (own.foldl (fun e' i => e'.set i (f i)) e)[i]? = if i ∈ own then (e[i]?).map (fun _ => f i) else e[i]?
  | [], _ => by simp
  | v :: vs, e => by
    rw [List.foldl_cons, fold_get i vs]
    by_cases h : v = i
    · subst h
      rw [if_pos (List.mem_cons_self), List.getElem?_set, if_pos rfl]
      by_cases hl : v < e.length
      · rw [if_pos hl, List.getElem?_eq_getElem hl]
        split <;> rfl
      · rw [if_neg hl, List.getElem?_eq_none (by omega)]
        split <;> rfl
    · rw [List.getElem?_set_ne h]
      by_cases hm : i ∈ vs
      · rw [if_pos hm, if_pos (List.mem_cons_of_mem _ hm)]
      · rw [if_neg hm, if_neg fun z => (List.mem_cons.mp z).elim (fun e => h e.symm) hm]
theorem wipeE_len (own : List Nat) (e : Env) : (wipeE own e).length = e.length := fold_len own e
theorem wipeE_get (own : List Nat) (e : Env) (i : Nat) : (wipeE own e)[i]? = if i ∈ own then (e[i]?).map (fun _ => none) else e[i]? := fold_get i own e
theorem backE_len (own : List Nat) (env e : Env) : (backE own env e).length = e.length := fold_len own e
theorem backE_get (own : List Nat) (env e : Env) (i : Nat) : (backE own env e)[i]? = if i ∈ own then (e[i]?).map (fun _ => (env[i]?).getD none) else e[i]? := fold_get (f := fun i => (env[i]?).getD none) i own e
def drpL (own : List Nat) (fps : Nat → List Addr) : Nat → List Addr := fun i => if i ∈ own then [] else fps i
theorem drpL_mem {own : List Nat} {i : Nat} {a : Addr} (h : a ∈ drpL own fps i) : i ∉ own ∧ a ∈ fps i := by
  unfold drpL at h
  split at h
  · cases h
  · exact ⟨by assumption, h⟩
theorem drpL_out {own : List Nat} {i : Nat} (h : i ∉ own) : drpL own fps i = fps i := if_neg h
theorem drpL_in {own : List Nat} {i : Nat} (h : i ∈ own) : drpL own fps i = [] := if_pos h
section
variable {X : Cx} {g : Gam} {w : Wd} {sg : Sig} {cl : Calls} {W : WX} {own : List Nat}
theorem wipeE_some {s : Sh} {d : D} {i : Nat} {e : Env} (h : (wipeE own e)[i]? = some (some (s, d))) : i ∉ own ∧ e[i]? = some (some (s, d)) := by
  rw [wipeE_get] at h
  split at h
  · cases hq : e[i]? <;> rw [hq] at h <;> cases h
  · exact ⟨by assumption, h⟩
theorem Sta.wipe (S : Sta w F B H σ env fps) (hio : ∀ i ∈ own, ∀ v, (i, v) ∉ w.io) : Sta w F B H (L2.wipe σ own) (wipeE own env) (drpL own fps) := by
  refine ⟨S.fh, S.bh, by rw [wipeE_len, L2.wipe_length]; exact S.ln, fun i s d e => ?_, fun i a ha => S.nf i a (drpL_mem ha).2, fun i a ha => S.hd i a (drpL_mem ha).2, fun i => ?_, fun i j a h1 h2 => S.sp i j a (drpL_mem h1).2 (drpL_mem h2).2, fun i v hv => ?_⟩
  · obtain ⟨n, e'⟩ := wipeE_some e
    obtain ⟨v, e1, r⟩ := S.sl i s d e'
    exact ⟨v, by rw [wipe_get, if_neg n]; exact e1, by rw [drpL_out n]; exact r⟩
  · unfold drpL
    split
    · exact List.nodup_nil
    · exact S.nd i
  · rw [wipe_get, if_neg fun h => hio i h v hv]
    exact S.io i v hv
theorem Stp.wipe {ef : List Nat} (hs : ∀ i ∈ own, i ∈ ef) (T : Stp ef F H fps F' H' fps') : Stp ef F H fps F' H' (drpL own fps') :=
  ⟨T.ff, T.fh, T.fn, T.fr, T.al, fun i hi => by rw [drpL_out fun h => hi (hs i h)]; exact T.sm i hi, fun i hi a ha => T.nw i hi a (drpL_mem ha).2⟩
theorem Kp.wipe {fp : List Addr} (k : Kp F B H fps fp) : Kp F B H (drpL own fps) fp := ⟨k.nd, k.nf, k.hd, fun a ha i hi => k.ds a ha i (drpL_mem hi).2⟩
/-- a list of one's own is written -/
theorem Sta.acc {p : Addr} {vs vs' : List V} (S : Sta w F B H σ env fps) (hp : H p = some (.lst vs)) (n : F p = none ∧ B p = none) (hd : ∀ i, p ∉ fps i) : Sta w F B (upd H p (.lst vs')) σ env fps := by
  have ne : ∀ a, a ≠ p → (upd H p (.lst vs')) a = H a := fun a h => upd_ne h
  have tk : TK H (upd H p (.lst vs')) := fun a xs e => by
    rw [ne a fun z => by subst z; rw [hp] at e; cases e]
    exact e
  refine ⟨fun a o e => ?_, fun a o e => ?_, S.ln, fun i s d e => ?_, S.nf, fun i a ha => ?_, S.nd, S.sp, S.io⟩
  · rw [ne a fun z => by subst z; rw [n.1] at e; cases e]
    exact S.fh a o e
  · rw [ne a fun z => by subst z; rw [n.2] at e; cases e]
    exact S.bh a o e
  · obtain ⟨v, e1, r⟩ := S.sl i s d e
    exact ⟨v, e1, RepS.mono (ex_refl _) (ex_refl _) tk d s v _ (fun a o ha e => by rw [ne a fun z => by subst z; exact hd i ha]; exact e) r⟩
  · obtain ⟨o, e, q⟩ := S.hd i a ha
    exact ⟨o, by rw [ne a fun z => by subst z; exact hd i ha]; exact e, q⟩
theorem Stp.acc {ef : List Nat} {p : Addr} {o : HO} (T : Stp ef F H fps F' H' fps') (h : H p = none) (n : F' p = none) : Stp ef F H fps F' (upd H' p o) fps' := by
  refine ⟨T.ff, fun a u e => ?_, T.fn, fun a u e k => ?_, fun a e => ?_, T.sm, T.nw⟩
  · rw [upd_ne fun z => by subst z; rw [n] at e; cases e]
    exact T.fh a u e
  · rw [upd_ne fun z => by subst z; rw [h] at e; cases e]
    exact T.fr a u e k
  · by_cases z : a = p
    · subst z
      rw [upd_same]
      exact fun z => by cases z
    · rw [upd_ne z]
      exact T.al a e
theorem RepSs.snoc {s : Sh} {d : D} {v : V} {f : List Addr} : ∀ {ds : List D} {vs : List V} {fp : List Addr}, RepSs w F B H ds s vs fp → RepS w F B H d s v f → RepSs w F B H (ds ++ [d]) s (vs ++ [v]) (fp ++ f)
  | [], _, _, h, r => by
    obtain ⟨rfl, rfl⟩ := h
    exact ⟨v, [], f, [], rfl, by simp, r, rfl, rfl⟩
  | e :: ds, _, _, h, r => by
    obtain ⟨u, q, f1, f2, rfl, rfl, h1, h2⟩ := h
    exact ⟨u, q ++ [v], f1, f2 ++ f, rfl, by simp, h1, RepSs.snoc h2 r⟩
theorem RepSs.len {s : Sh} : ∀ {ds : List D} {vs : List V} {fp : List Addr}, RepSs w F B H ds s vs fp → vs.length = ds.length
  | [], _, _, h => by rw [h.1]; rfl
  | e :: ds, _, _, h => by
    obtain ⟨u, q, f1, f2, rfl, rfl, h1, h2⟩ := h
    rw [List.length_cons, List.length_cons, RepSs.len h2]
/-! ### tests -/
def tCond (w : Wd) (sg : Sig) (cl : Calls) (W : WX) (ifs : Es) : TT := fun σ H Q => ∃ env F B fps r, Sta w F B H σ env fps ∧ cond sg cl ifs env = some r ∧ match r with
  | .ok b env' => ∀ H' F' fps', Sta w F' B H' σ env' fps' → Stp (effEs sg ifs) F H fps F' H' fps' → Q b H'
  | .ex c fs env' => ∀ cls dx H' F' fps', Sta w F' B H' σ env' fps' → Stp (effEs sg ifs) F H fps F' H' fps' → ExR w c fs cls dx F' → W cls dx σ H'
theorem cond_nil {Q : Bool → Hp → Prop} (h : tCond w sg cl W .nil σ H Q) : L2.tYes σ H Q := by
  obtain ⟨env, F, B, fps, r, S, he, q⟩ := h
  cases pure_ok (show M.pure true env = some r from he)
  exact q H F fps S (Stp.refl S.fh)
theorem cond_one {e : E} {Q : Bool → Hp → Prop} (h : tCond w sg cl W (.cons e .nil) σ H Q) : tB (tE w sg cl W e) σ H Q := by
  obtain ⟨env, F, B, fps, r, S, he, q⟩ := h
  have e1 : ∀ i ∈ effE sg e, i ∈ effEs sg (.cons e .nil) := fun i hi => List.mem_append_left _ hi
  rcases bind_ok (show M.bind (ev sg cl e) (fun x => M.opt (truth x)) env = some r from he) with ⟨x, env1, h1, h2⟩ | ⟨c, fs, env1, h1, rfl⟩
  · refine ⟨env, F, B, fps, _, S, h1, fun v H1 F1 fps1 S1 T1 V1 => ?_⟩
    obtain ⟨k, hk, rfl⟩ := opt_ok h2
    exact ⟨k, truth_ok hk (V1.elim fun fp z => ⟨fp, z.1⟩), q H1 F1 fps1 S1 (T1.weak e1)⟩
  · exact ⟨env, F, B, fps, _, S, h1, fun cls dx H1 F1 fps1 S1 T1 x1 => q cls dx H1 F1 fps1 S1 (T1.weak e1) x1⟩
theorem compD_cons {tg : Tg} {c : M Bool} {e : M D} {x : SD} {xs : List SD} {rest : List D} (h : compD own tg c e (x :: xs) env = some (.ok rest env2)) : ∃ e1 b e2, asgT tg x (wipeE own env) = some (.ok () e1) ∧ c e1 = some (.ok b e2) ∧
    ((b = true ∧ ∃ d e3 rest', e e2 = some (.ok d e3) ∧ compD own tg c e xs e3 = some (.ok rest' env2) ∧ rest = d :: rest') ∨ (b = false ∧ compD own tg c e xs e2 = some (.ok rest env2))) := by
  rcases bind_ok (show M.bind (clr own) (fun _ => M.bind (asgT tg x) fun _ => M.bind c fun b => if b then M.bind e fun d => M.bind (compD own tg c e xs) fun ds => M.pure (d :: ds) else compD own tg c e xs) env = some _ from h) with ⟨_, e0, h1, h2⟩ | ⟨_, _, _, h1, z⟩
  · have e0' : e0 = wipeE own env := by
      have h1' : some (Out.ok () (wipeE own env)) = some (Out.ok () e0) := h1
      cases h1'
      rfl
    subst e0'
    rcases bind_ok h2 with ⟨_, e1, h3, h4⟩ | ⟨_, _, _, h3, z⟩
    · rcases bind_ok h4 with ⟨b, e2, h5, h6⟩ | ⟨_, _, _, h5, z⟩
      · refine ⟨e1, b, e2, h3, h5, ?_⟩
        cases b with
        | false => exact .inr ⟨rfl, h6⟩
        | true =>
          rcases bind_ok (show M.bind e (fun d => M.bind (compD own tg c e xs) fun ds => M.pure (d :: ds)) e2 = some _ from h6) with ⟨d, e3, h7, h8⟩ | ⟨_, _, _, h7, z⟩
          · rcases bind_ok h8 with ⟨ds, e4, h9, h10⟩ | ⟨_, _, _, h9, z⟩
            · cases pure_ok h10
              exact .inl ⟨rfl, d, e3, ds, h7, h9, rfl⟩
            · cases z
          · cases z
      · cases z
    · cases z
  · cases h1
end
end DI
/-! DI9g: the loop of a list comprehension. -/
namespace DI
open PySem L2
variable {F F' F0 F1 F2 B B' H H' H0 H1 H2 : Hp} {σ σ1 : L2.St} {env env1 env2 : Env} {fps fps' fps0 fps1 fps2 : Nat → List Addr}
section
variable {X : Cx} {g : Gam} {w : Wd} {sg : Sig} {cl : Calls} {W : WX} {own : List Nat}
def W0 : WX := fun _ _ _ _ => False
/-- where the loop stands -/
structure LcI (w : Wd) (own : List Nat) (ef : List Nat) (σ : L2.St) (J : L2.It) (xs : List SD) (as : List Addr) (rts : List Nat) (s : Sh) (D0 : Addr) (ds : List D) (F1 B H1 : Hp) (fpw : Nat → List Addr) (go : List SD → Env → List D → Prop) (i : Nat) (H' : Hp) : Prop where
  le : i ≤ xs.length
  ex : ∃ env' F' fps' vs fpa done rest, Sta w F' B H' (L2.wipe σ own) (wipeE own env') fps' ∧ Stp ef F1 H1 fpw F' H' fps' ∧ LoopAt w J xs as F' B H' ∧ (∀ a ∈ as, ∃ j ∈ rts, a ∈ fps' j) ∧ H' D0 = some (.lst vs) ∧ RepSs w F' B H' done s vs fpa ∧
    Kp F' B H' fps' (D0 :: fpa) ∧ Fr ef H1 fpw fpa ∧ go (xs.drop i) env' rest ∧ done ++ rest = ds
/-- from one turn to the next; where an item was put, the list is longer -/
theorem LcI.next {ef : List Nat} {J : L2.It} {xs : List SD} {as : List Addr} {rts : List Nat} {s : Sh} {D0 : Addr} {ds : List D} {fpw : Nat → List Addr} {go : List SD → Env → List D → Prop} {i : Nat} {env4 : Env} {vs : List V} {fpa f1 : List Addr} {done dn rest : List D} {us : List V} {σ4 : L2.St}
    {F4 H4 : Hp} {fps' fps4 : Nat → List Addr} (hio : ∀ i ∈ own, ∀ v, (i, v) ∉ w.io) (hso : ∀ i ∈ own, i ∈ ef) (hr : ∀ j ∈ rts, j ∉ ef) (hi : i < xs.length) (hD : H1 D0 = none)
    (Ss : ∃ env', Sta w F' B H' (L2.wipe σ own) env' fps') (T1 : Stp ef F1 H1 fpw F' H' fps') (L' : LoopAt w J xs as F' B H') (A' : ∀ a ∈ as, ∃ j ∈ rts, a ∈ fps' j) (hd : H' D0 = some (.lst vs)) (R' : RepSs w F' B H' done s vs fpa) (K' : Kp F' B H' fps' (D0 :: fpa)) (Fa : Fr ef H1 fpw fpa)
    (S4 : Sta w F4 B H4 σ4 env4 fps4) (hσ : L2.wipe σ4 own = L2.wipe σ own) (T4 : Stp ef F' H' fps' F4 H4 fps4) (hu : us = [] ∧ dn = [] ∧ f1 = [] ∨ ∃ u d, us = [u] ∧ dn = [d] ∧ RepS w F4 B H4 d s u f1) (K1 : Kp F4 B H4 fps4 f1) (Fr1 : Fr ef H' fps' f1) (hgo : go (xs.drop (i + 1)) env4 rest) (hds : (done ++ dn) ++ rest = ds) :
    LcI w own ef σ J xs as rts s D0 ds F1 B H1 fpw go (i + 1) (if us = [] then H4 else upd H4 D0 (.lst (vs ++ us))) ∧ H4 D0 = some (.lst vs) := by
  obtain ⟨env', S'⟩ := Ss
  have nD : ∀ i, D0 ∉ fps' i := K'.ds D0 (.head _)
  have hd4 : H4 D0 = some (.lst vs) := T4.fr D0 _ hd fun i _ => nD i
  refine ⟨⟨hi, ?_⟩, hd4⟩
  have K4 : Kp F4 B H4 fps4 (D0 :: fpa) := K'.step T4
  have K5 : Kp F4 B H4 fps4 ((D0 :: fpa) ++ f1) := K'.app T4 K1 Fr1
  have R4 : RepSs w F4 B H4 done s vs fpa := RepSs.mono T4.ff (ex_refl _) (T4.tup S') _ _ _ _ (fun a o ha e => T4.fr a o e fun j _ => K'.ds a (.tail _ ha) j) R'
  have S5 := S4.wipe (own := own) hio
  rw [hσ] at S5
  have T5 : Stp ef F1 H1 fpw F4 H4 (drpL own fps4) := (T1.trans T4).wipe hso
  have tk4 := T4.tup S'
  have ko4 : KO H' H4 as := fun a o ha e => T4.fr a o e fun j hj hm => by
    obtain ⟨k, hk, hk2⟩ := A' a ha
    have := S'.sp j k a hm hk2
    subst this
    exact hr j hk hj
  have A4 : ∀ a ∈ as, ∃ j ∈ rts, a ∈ drpL own fps4 j := fun a ha => by
    obtain ⟨k, hk, hk2⟩ := A' a ha
    exact ⟨k, hk, by rw [drpL_out fun z => hr k hk (hso k z), T4.sm k (hr k hk)]; exact hk2⟩
  have Fb : Fr ef H1 fpw (fpa ++ f1) := Fr.app Fa (Fr.back T1 Fr1)
  rcases hu with ⟨rfl, rfl, rfl⟩ | ⟨u, d, rfl, rfl, ru⟩
  · rw [if_pos rfl]
    refine ⟨env4, F4, drpL own fps4, vs, fpa, done, rest, S5, T5, L'.step T4.ff tk4 ko4, A4, hd4, R4, K4.wipe, Fa, hgo, by simpa using hds⟩
  · rw [if_neg (by simp)]
    have n4 := K4.nf D0 (.head _)
    have ne : ∀ a, a ≠ D0 → (upd H4 D0 (.lst (vs ++ [u]))) a = H4 a := fun a h => upd_ne h
    have tk5 : TK H4 (upd H4 D0 (.lst (vs ++ [u]))) := fun a xs e => by
      rw [ne a fun z => by subst z; rw [hd4] at e; cases e]
      exact e
    have nd5 := List.nodup_cons.mp K5.nd
    refine ⟨env4, F4, drpL own fps4, vs ++ [u], fpa ++ f1, done ++ [d], rest, S5.acc hd4 n4 fun i hi => K4.ds D0 (.head _) i (drpL_mem hi).2, T5.acc hD n4.1, ?_, A4, upd_same, ?_, ?_, Fb, hgo, hds⟩
    · refine L'.step T4.ff (fun a xs e => tk5 a xs (tk4 a xs e)) fun a o ha e => ?_
      rw [ne a fun z => ?_]
      · exact ko4 a o ha e
      · subst z
        obtain ⟨k, _, hk2⟩ := A' a ha
        exact nD k hk2
    · have m1 : RepSs w F4 B (upd H4 D0 (.lst (vs ++ [u]))) done s vs fpa := RepSs.mono (ex_refl _) (ex_refl _) tk5 _ _ _ _ (fun a o ha e => by
        rw [ne a fun z => by subst z; exact nd5.1 (List.mem_append_left _ ha)]
        exact e) R4
      have m2 : RepS w F4 B (upd H4 D0 (.lst (vs ++ [u]))) d s u f1 := RepS.mono (ex_refl _) (ex_refl _) tk5 _ _ _ _ (fun a o ha e => by
        rw [ne a fun z => by subst z; exact nd5.1 (List.mem_append_right _ ha)]
        exact e) ru
      exact m1.snoc m2
    · refine ⟨K5.nd, K5.nf, fun a ha => ?_, fun a ha i hi => K5.ds a ha i (drpL_mem hi).2⟩
      by_cases z : a = D0
      · subst z
        exact ⟨_, upd_same, trivial⟩
      · obtain ⟨o, e, q⟩ := K5.hd a ha
        exact ⟨o, by rw [ne a z]; exact e, q⟩
theorem lc_go {tg : Tg} {it : It} {ifs : Es} {elt : E} {s : Sh} {Q : VK} (hio : ∀ i ∈ own, ∀ v, (i, v) ∉ w.io) (htg : ∀ i ∈ tg.slots, i ∈ own) (hrt : ∀ i ∈ it.roots, i ∉ own ∧ i ∉ effEs sg ifs ++ effE sg elt)
    (h : tE w sg cl W (.lc own tg it ifs elt s) σ H Q) : L2.tLc (tI w sg cl W it) (tT w tg) (tCond w sg cl W0 ifs) (tE w sg cl W0 elt) own σ H Q := by
  obtain ⟨env, F, B, fps, r, S, he, q⟩ := h
  generalize hfi : (effEs sg ifs ++ effE sg elt).filter (fun i => !own.contains i) = filt at q
  have hef : effE sg (.lc own tg it ifs elt s) = effI sg it ++ filt := by rw [← hfi]; rfl
  rw [hef] at q
  have he' : M.bind (its sg cl it) (fun xs => M.bind (hide own (compD own tg (cond sg cl ifs) (M.bind (ev sg cl elt) fun r => M.bind (M.opt (takeAs s elt r)) fun q => M.pure q.2) xs)) fun ds => if ds.length ≤ sizeLine then M.pure (Sh.lst s, D.lst ds) else M.stuck) env = some r := he
  rcases bind_ok he' with ⟨xs, env1, h1, h2⟩ | ⟨c, fs, env1, h1, rfl⟩
  rotate_left
  · exact ⟨env, F, B, fps, _, S, h1, fun cls dx H1 F1 fps1 S1 T1 x1 => q cls dx H1 F1 fps1 S1 (T1.weak mem_l) x1⟩
  refine ⟨env, F, B, fps, _, S, h1, fun J H1 F1 fps1 as S1 T1 L1 A1 => fun D0 hD => ?_⟩
  -- what the block says
  obtain ⟨ds, env2, hc, hl, rfl⟩ : ∃ ds env2, compD own tg (cond sg cl ifs) (M.bind (ev sg cl elt) fun r => M.bind (M.opt (takeAs s elt r)) fun q => M.pure q.2) xs env1 = some (.ok ds env2) ∧ ds.length ≤ sizeLine ∧ r = .ok (.lst s, .lst ds) (backE own env1 env2) := by
    rcases bind_ok h2 with ⟨ds, e2, h3, h4⟩ | ⟨c, fs, e2, h3, rfl⟩
    · unfold hide at h3
      split at h3
      · rename_i a e hc
        cases h3
        have h4' : (if ds.length ≤ sizeLine then M.pure (Sh.lst s, D.lst ds) else M.stuck : M SD) (backE own env1 e) = some r := h4
        by_cases hz : ds.length ≤ sizeLine
        · rw [if_pos hz] at h4'
          exact ⟨ds, e, hc, hz, pure_ok h4'⟩
        · rw [if_neg hz] at h4'
          cases h4'
      · cases h3
    · unfold hide at h3
      split at h3 <;> cases h3
  generalize hcd : (fun (ys : List SD) (e : Env) (rest : List D) => compD own tg (cond sg cl ifs) (M.bind (ev sg cl elt) fun r => M.bind (M.opt (takeAs s elt r)) fun q => M.pure q.2) ys e = some (.ok rest env2)) = go
  have hgo : ∀ ys e rest, go ys e rest → compD own tg (cond sg cl ifs) (M.bind (ev sg cl elt) fun r => M.bind (M.opt (takeAs s elt r)) fun q => M.pure q.2) ys e = some (.ok rest env2) := fun ys e rest z => by rw [← hcd] at z; exact z
  have hog : ∀ ys e rest, compD own tg (cond sg cl ifs) (M.bind (ev sg cl elt) fun r => M.bind (M.opt (takeAs s elt r)) fun q => M.pure q.2) ys e = some (.ok rest env2) → go ys e rest := fun ys e rest z => by rw [← hcd]; exact z
  have hso : ∀ i ∈ own, i ∈ own ++ filt := mem_l
  have hmem : ∀ i, i ∈ effEs sg ifs ++ effE sg elt → i ∈ own ++ filt := fun i hi => by
    by_cases ho : i ∈ own
    · exact List.mem_append_left _ ho
    · refine List.mem_append_right _ ?_
      rw [← hfi]
      exact List.mem_filter.mpr ⟨hi, by simp [ho]⟩
  have hin : ∀ i ∈ filt, i ∉ own := fun i hi => by
    rw [← hfi] at hi
    have := (List.mem_filter.mp hi).2
    simpa using this
  have hr : ∀ j ∈ it.roots, j ∉ own ++ filt := fun j hj hm => by
    obtain ⟨r1, r2⟩ := hrt j hj
    rcases List.mem_append.mp hm with z | z
    · exact r1 z
    · rw [← hfi] at z
      exact r2 (List.mem_filter.mp z).1
  have S1w := S1.wipe (own := own) hio
  have eh : Ex H1 (upd H1 D0 (.lst [])) := ex_upd hD
  have fD : F1 D0 = none ∧ B D0 = none := ⟨ex_none S1.fh hD, ex_none S1.bh hD⟩
  have i0 : LcI w own (own ++ filt) σ J xs as it.roots s D0 ds F1 B H1 (drpL own fps1) go 0 (upd H1 D0 (.lst [])) := by
    refine ⟨Nat.zero_le _, env1, F1, drpL own fps1, [], [], [], ds, S1w.new eh (ex_refl _) (ex_trans S1.fh eh) fun _ _ z => .inl z, Stp.new S1w eh (ex_refl _) (ex_trans S1.fh eh) fun _ _ z => .inl z, L1.step (ex_refl _) (fun a xs z => eh a _ z) fun a o _ z => eh a o z, fun a ha => ?_, upd_same, ⟨rfl, rfl⟩, ?_, Fr.nil, hog _ _ _ hc, rfl⟩
    · obtain ⟨j, hj, hm⟩ := A1 a ha
      exact ⟨j, hj, by rw [drpL_out (hrt j hj).1]; exact hm⟩
    · refine ⟨by simp, fun a ha => ?_, fun a ha => ?_, fun a ha i hi => ?_⟩
      all_goals rw [List.mem_singleton.mp ha] at *
      · exact fD
      · exact ⟨_, upd_same, trivial⟩
      · exact (S1w.hd i _ hi).some hD
  refine ⟨fun i m H' => m = xs.length - i ∧ LcI w own (own ++ filt) σ J xs as it.roots s D0 ds F1 B H1 (drpL own fps1) go i H', ⟨_, rfl, i0⟩, ?_⟩
  rintro i m H' ⟨rfl, hi, env', F', fps', vs, fpa, done, rest, S', T', L', A', hd, R', K', Fa, hg, hds⟩
  obtain ⟨l1, l2, l3⟩ := L' F' H' (ex_refl _) S'.fh S'.bh (fun _ _ z => z) (fun _ _ _ z => z)
  by_cases hlt : i < xs.length
  · refine .inr ⟨l1 i hlt, fun H'' => LcI w own (own ++ filt) σ J xs as it.roots s D0 ds F1 B H1 (drpL own fps1) go (i + 1) H'', fun H'' n => ⟨xs.length - (i + 1), by omega, rfl, n⟩, fun x H2 hy => ?_⟩
    obtain ⟨y, y1, eh2, rr⟩ := l3 i x H2 hlt hy
    have hdr : xs.drop i = y :: xs.drop (i + 1) := by
      obtain ⟨hh, ey⟩ := List.getElem?_eq_some_iff.mp y1
      rw [← ey]
      exact List.drop_eq_getElem_cons hh
    rw [hdr] at hg
    obtain ⟨e1, b, e2, a1, a2, a3⟩ := compD_cons (hgo _ _ _ hg)
    have S2 : Sta w F' B H2 (L2.wipe σ own) (wipeE own env') fps' := S'.new eh2 (ex_refl _) (ex_trans S'.fh eh2) fun _ _ z => .inl z
    have T2 : Stp (own ++ filt) F' H' fps' F' H2 fps' := Stp.new S' eh2 (ex_refl _) (ex_trans S'.fh eh2) fun _ _ z => .inl z
    refine ⟨wipeE own env', F', B, fps', y, [], e1, S2, rr S'.fh, Kp.nil, a1, fun σ3 fps3 S3 TG3 SG3 => ⟨?_, ?_⟩⟩
    · refine List.ext_getElem? fun j => ?_
      rw [wipe_get, wipe_get]
      by_cases ho : j ∈ own
      · rw [if_pos ho, if_pos ho]
        have hlen : σ3.length = σ.length := by rw [SG3.ln, L2.wipe_length]
        by_cases hj : j < σ.length
        · rw [List.getElem?_eq_getElem hj, List.getElem?_eq_getElem (by omega)]
          rfl
        · rw [List.getElem?_eq_none (by omega), List.getElem?_eq_none (by omega)]
      · rw [if_neg ho, if_neg ho, SG3.sm j fun z => ho (htg j z), wipe_get, if_neg ho]
    have hσ : L2.wipe σ3 own = L2.wipe σ own := by
      refine List.ext_getElem? fun j => ?_
      rw [wipe_get, wipe_get]
      by_cases ho : j ∈ own
      · rw [if_pos ho, if_pos ho]
        have hlen : σ3.length = σ.length := by rw [SG3.ln, L2.wipe_length]
        by_cases hj : j < σ.length
        · rw [List.getElem?_eq_getElem hj, List.getElem?_eq_getElem (by omega)]
          rfl
        · rw [List.getElem?_eq_none (by omega), List.getElem?_eq_none (by omega)]
      · rw [if_neg ho, if_neg ho, SG3.sm j fun z => ho (htg j z), wipe_get, if_neg ho]
    have T3 : Stp (own ++ filt) F' H' fps' F' H2 fps3 := T2.tgt TG3 (fun j hj => hso j (htg j hj)) Fr.nil
    refine ⟨e1, F', B, fps3, _, S3, a2, fun H4 F4 fps4 S4 T4 => ?_⟩
    have T34 : Stp (own ++ filt) F' H' fps' F4 H4 fps4 := T3.trans (T4.weak fun j hj => hmem j (mem_l j hj))
    rcases a3 with ⟨rfl, d, e3, rest', a4, a5, rfl⟩ | ⟨rfl, a5⟩
    · dsimp only
      rw [if_pos rfl]
      obtain ⟨x5, e5, b1, b2⟩ : ∃ x5 e5, ev sg cl elt e2 = some (.ok x5 e5) ∧ (M.bind (M.opt (takeAs s elt x5)) fun q => M.pure q.2) e5 = some (.ok d e3) := by
        rcases bind_ok a4 with ⟨x5, e5, b1, b2⟩ | ⟨_, _, _, _, z⟩
        · exact ⟨x5, e5, b1, b2⟩
        · cases z
      refine ⟨e2, F4, B, fps4, _, S4, b1, fun v H5 F5 fps5 S5 T5 V5 => ?_⟩
      obtain ⟨q5, hq, b3⟩ := opt_of' b2
      cases pure_ok b3
      obtain ⟨F6, f1, S6, T6, R6, K6, Fr6⟩ := keep_ok (kpA s) hq S5 T5 V5
      have hsq : q5.1 = s := by
        unfold takeAs at hq
        split at hq
        · obtain ⟨_, hq⟩ := ite_some hq
          cases hq
          rfl
        · cases hq
      rw [hsq] at R6
      have T6' := T6.weak fun j hj => hmem j (mem_r j hj)
      obtain ⟨n1, n2⟩ := LcI.next (J := J) (xs := xs) (as := as) (rts := it.roots) (s := s) (ds := ds) (go := go) (i := i) (us := [v]) (dn := [q5.2]) (f1 := f1) hio hso hr hlt hD ⟨_, S'⟩ T' L' A' hd R' K' Fa S6 hσ (T34.trans T6') (.inr ⟨v, q5.2, rfl, rfl, R6⟩) K6
        (Fr.back T34 (Fr6.weak fun j hj => hmem j (mem_r j hj))) (hog _ _ _ a5) (by rw [List.append_assoc]; exact hds)
      rw [if_neg (by simp)] at n1
      refine ⟨vs, n2, ?_, n1⟩
      have hlv : vs.length = done.length := R'.len
      have : done.length < ds.length := by
        rw [← hds, List.length_append, List.length_cons]
        omega
      omega
    · dsimp only
      rw [if_neg (by simp)]
      obtain ⟨n1, n2⟩ := LcI.next (J := J) (xs := xs) (as := as) (rts := it.roots) (s := s) (ds := ds) (go := go) (i := i) (us := []) (dn := []) (f1 := []) hio hso hr hlt hD ⟨_, S'⟩ T' L' A' hd R' K' Fa S4 hσ T34 (.inl ⟨rfl, rfl, rfl⟩) Kp.nil Fr.nil (hog _ _ _ a5) (by rw [List.append_nil]; exact hds)
      rw [if_pos rfl] at n1
      exact n1
  · have ei : i = xs.length := by omega
    subst ei
    refine .inl ⟨l2 _ (Nat.le_refl _), ?_⟩
    rw [List.drop_length] at hg
    have hend := pure_ok (show M.pure ([] : List D) env' = some (.ok rest env2) from hgo _ _ _ hg)
    cases hend
    rw [List.append_nil] at hds
    subst hds
    have hid : ∀ i ∈ own, Kp F1 B H1 (drpL own fps1) (fps1 i) := fun i hi => ⟨S1.nd i, S1.nf i, S1.hd i, fun a ha j hj => by
      obtain ⟨n, hm⟩ := drpL_mem hj
      have := S1.sp i j a ha hm
      subst this
      exact n hi⟩
    have hid' : ∀ i ∈ own, Kp F' B H' fps' (fps1 i) := fun i hi => (hid i hi).step T'
    have S9 : Sta w F' B H' σ (backE own env1 env2) (fun i => if i ∈ own then fps1 i else fps' i) := by
      refine ⟨S'.fh, S'.bh, ?_, fun i s' d' e => ?_, fun i a ha => ?_, fun i a ha => ?_, fun i => ?_, fun i j a h1 h2 => ?_, S1.io⟩
      · rw [backE_len]
        have := S'.ln
        rw [wipeE_len, L2.wipe_length] at this
        exact this
      · rw [backE_get] at e
        by_cases ho : i ∈ own
        · rw [if_pos ho] at e
          have e1 : env1[i]? = some (some (s', d')) := by
            cases hq : env2[i]? with
            | none => rw [hq] at e; cases e
            | some z =>
              rw [hq] at e
              have e' : (env1[i]?).getD none = some (s', d') := Option.some.inj e
              cases hq1 : env1[i]? with
              | none => rw [hq1] at e'; cases e'
              | some z1 =>
                rw [hq1] at e'
                exact congrArg some e'
          obtain ⟨v, v1, r1⟩ := S1.sl i s' d' e1
          refine ⟨v, v1, ?_⟩
          show RepS w F' B H' d' s' v (if i ∈ own then fps1 i else fps' i)
          rw [if_pos ho]
          exact T'.keep S1w (fun a ha j _ hm => (hid i ho).ds a ha j hm) r1
        · rw [if_neg ho] at e
          obtain ⟨v, v1, r1⟩ := S'.sl i s' d' (by rw [wipeE_get, if_neg ho]; exact e)
          rw [wipe_get, if_neg ho] at v1
          refine ⟨v, v1, ?_⟩
          show RepS w F' B H' d' s' v (if i ∈ own then fps1 i else fps' i)
          rw [if_neg ho]
          exact r1
      · have ha' : a ∈ (if i ∈ own then fps1 i else fps' i) := ha
        by_cases ho : i ∈ own
        · rw [if_pos ho] at ha'
          exact (hid' i ho).nf a ha'
        · rw [if_neg ho] at ha'
          exact S'.nf i a ha'
      · have ha' : a ∈ (if i ∈ own then fps1 i else fps' i) := ha
        by_cases ho : i ∈ own
        · rw [if_pos ho] at ha'
          exact (hid' i ho).hd a ha'
        · rw [if_neg ho] at ha'
          exact S'.hd i a ha'
      · show (if i ∈ own then fps1 i else fps' i).Nodup
        by_cases ho : i ∈ own
        · rw [if_pos ho]
          exact S1.nd i
        · rw [if_neg ho]
          exact S'.nd i
      · have h1' : a ∈ (if i ∈ own then fps1 i else fps' i) := h1
        have h2' : a ∈ (if j ∈ own then fps1 j else fps' j) := h2
        by_cases ho : i ∈ own <;> by_cases ho2 : j ∈ own
        · rw [if_pos ho] at h1'
          rw [if_pos ho2] at h2'
          exact S1.sp i j a h1' h2'
        · rw [if_pos ho] at h1'
          rw [if_neg ho2] at h2'
          exact ((hid' i ho).ds a h1' j h2').elim
        · rw [if_neg ho] at h1'
          rw [if_pos ho2] at h2'
          exact ((hid' j ho2).ds a h2' i h1').elim
        · rw [if_neg ho] at h1'
          rw [if_neg ho2] at h2'
          exact S'.sp i j a h1' h2'
    have fw : ∀ a, (∃ j ∈ own ++ filt, a ∈ drpL own fps1 j) → ∃ j ∈ filt, a ∈ fps1 j := fun a ⟨j, hj, hm⟩ => by
      obtain ⟨n, hm⟩ := drpL_mem hm
      exact ⟨j, (List.mem_append.mp hj).resolve_left n, hm⟩
    have T9 : Stp filt F1 H1 fps1 F' H' (fun i => if i ∈ own then fps1 i else fps' i) := by
      refine ⟨T'.ff, T'.fh, fun a o e => ?_, fun a o e n => T'.fr a o e fun j hj hm => ?_, T'.al, fun i hn => ?_, fun i hi a ha => ?_⟩
      · rcases T'.fn a o e with z | z | z | z
        · exact .inl z
        · exact .inr (.inl z)
        · exact .inr (.inr (.inl (fw a z)))
        · exact .inr (.inr (.inr z))
      · obtain ⟨k, hk, hm⟩ := fw a ⟨j, hj, hm⟩
        exact n k hk hm
      · show (if i ∈ own then fps1 i else fps' i) = fps1 i
        by_cases ho : i ∈ own
        · rw [if_pos ho]
        · rw [if_neg ho, T'.sm i fun z => (List.mem_append.mp z).elim ho hn, drpL_out ho]
      · have ha' : a ∈ (if i ∈ own then fps1 i else fps' i) := ha
        rw [if_neg (hin i hi)] at ha'
        exact (T'.nw i (List.mem_append_right _ hi) a ha').imp id (fw a)
    have T10 : Stp (effI sg it ++ filt) F H fps F' H' (fun i => if i ∈ own then fps1 i else fps' i) := (T1.weak mem_l).trans (T9.weak mem_r)
    have fr9 : Fr filt H1 fps1 (D0 :: fpa) := fun a ha => by
      rcases List.mem_cons.mp ha with rfl | ha
      · exact .inl hD
      · exact (Fa a ha).imp id (fw a)
    have frT : Fr (effI sg it ++ filt) H fps (D0 :: fpa) := Fr.back (T1.weak mem_l) (fr9.weak mem_r)
    have k9 : Kp F' B H' (fun i => if i ∈ own then fps1 i else fps' i) (D0 :: fpa) := by
      refine ⟨K'.nd, K'.nf, K'.hd, fun a ha i hi => ?_⟩
      have hi' : a ∈ (if i ∈ own then fps1 i else fps' i) := hi
      by_cases ho : i ∈ own
      · rw [if_pos ho] at hi'
        rcases fr9 a ha with z | ⟨j, hj, z⟩
        · exact (S1.hd i a hi').some z
        · have := S1.sp i j a hi' z
          subst this
          exact hin i hj ho
      · rw [if_neg ho] at hi'
        exact K'.ds a ha i hi'
    exact q (.ref D0) H' F' _ S9 T10 ⟨D0 :: fpa, ⟨D0, vs, fpa, rfl, rfl, hd, R'⟩, k9, frT⟩
end
end DI
/-! DI9h: comprehensions as expressions; tests; two names at once. -/
namespace DI
open PySem L2 PySem.Spec PyProof.Rows
variable {F F' F0 F1 F2 B B' H H' H0 H1 H2 : Hp} {σ σ1 : L2.St} {env env1 env2 : DI.Env} {fps fps' fps0 fps1 fps2 : Nat → List Addr}
theorem PTs.imp {X : Cx} {e : List Expr} {t t' : TT} (h : L2.PTs X e t) (hi : ∀ σ H Q, t' σ H Q → t σ H Q) : L2.PTs X e t' := ⟨fun pins s σ H Q I q => h.run pins s σ H Q I (hi σ H Q q)⟩
section
variable {X : Cx} {g : Gam} {w : Wd} {sg : Sig} {cl : Calls} {W : WX} {own : List Nat}
/-- the block of a comprehension -/
theorem Ctx.blk (C : Ctx X g w sg W) {scope : Scope} (hk : scope.kind = .function) (s : Shared) (H : L2.Hp) (c : Addr) (clo : List (Str × Addr)) (fp : List Addr) : Ctx (X.blk s H scope (compEnvC scope clo c X.env) fp) (g.blk scope) w sg W0 := by
  have hsc : (compEnvC scope clo c X.env).scope = L2.relS scope g.sc := by
    rw [← C.sc]
    rfl
  refine ⟨C.N, C.nd, hsc, C.K, C.calm, ?_, fun x hx => ?_, C.bl, C.un, C.gd, C.con, C.wok, C.gfn, C.io, hk⟩
  · rintro u s' ⟨a, B, sI, pins, σ, H, cls, d, e, I, nb, up, sky, na, os, ag, z⟩
    exact z.elim
  · have hx' : (match scope.names.lookup x with | some .local => true | some .cell => true | _ => false) = true := hx
    show (scope.names.lookup x == some NameKind.cell) = true ∨ (compEnvC scope clo c X.env).scope.names.lookup x = some .local
    rw [hsc]
    split at hx'
    · rename_i e
      exact .inr (L2.lookup_relS_keep (by decide) e)
    · rename_i e
      exact .inl (by rw [e]; decide)
    · cases hx'
theorem CallsOk.blk (K : CallsOk X g w sg cl) {scope : Scope} (s : Shared) (H : L2.Hp) (c : Addr) (clo : List (Str × Addr)) (fp : List Addr) : CallsOk (X.blk s H scope (compEnvC scope clo c X.env) fp) (g.blk scope) w sg cl := ⟨K.fn, K.mt, K.nk⟩
theorem ownOf_snd (own : List Nat) : (ownOf g own).map (·.2) = own := by
  unfold ownOf
  rw [List.map_map]
  exact List.map_id _
structure LcOk (X : Cx) (g : Gam) (w : Wd) (sg : Sig) (own : List Nat) (tg : Tg) (it : It) (ifs : Es) (elt : E) (scope : Scope) (t : Expr) : Prop where
  blk : L2.blkC g.N g.sc scope (ownOf g own) = true
  io : own.all (fun i => !g.io.contains i) = true
  tgo : tg.slots.all (fun i => own.contains i) = true
  mt : matchTg (g.blk scope) tg t = true
  rt : it.roots.all (fun i => !own.contains i && !(effEs sg ifs ++ effE sg elt).contains i) = true
theorem LcOk.go (C : Ctx X g w sg W) {tg : Tg} {it : It} {ifs : Es} {elt : E} {scope : Scope} {t : Expr} {s : Sh} {Q : VK} (L : LcOk X g w sg own tg it ifs elt scope t) (h : tE w sg cl W (.lc own tg it ifs elt s) σ H Q) :
    L2.tLc (tI w sg cl W it) (tT w tg) (tCond w sg cl W0 ifs) (tE w sg cl W0 elt) ((ownOf g own).map (·.2)) σ H Q := by
  rw [ownOf_snd]
  refine lc_go (fun i hi v hv => ?_) (fun i hi => ?_) (fun i hi => ?_) h
  · have := List.all_eq_true.mp L.io i hi
    rw [List.contains_iff_mem.mpr (C.io i v hv)] at this
    cases this
  · exact List.contains_iff_mem.mp (List.all_eq_true.mp L.tgo i hi)
  · obtain ⟨h1, h2⟩ := and2 (List.all_eq_true.mp L.rt i hi)
    refine ⟨fun z => ?_, fun z => ?_⟩
    · rw [List.contains_iff_mem.mpr z] at h1
      cases h1
    · rw [List.contains_iff_mem.mpr z] at h2
      cases h2
theorem blk_kind {scope : Scope} {N : List Str} {sc : Scope} {o : List (Str × Nat)} (h : L2.blkC N sc scope o = true) : scope.kind = .function := (L2.blkOk_by h).kind
theorem LcOk.ok (C : Ctx X g w sg W) {tg : Tg} {it : It} {ifs : Es} {elt : E} {scope : Scope} {t : Expr} (L : LcOk X g w sg own tg it ifs elt scope t) : L2.BlkOk X.N X.env.scope scope (ownOf g own) := by
  have := L2.blkOk_by L.blk
  rw [← C.N, ← C.sc] at this
  exact this
theorem c_lc (C : Ctx X g w sg W) {tg : Tg} {it : It} {ifs : Es} {elt : E} {scope : Scope} {t i e : Expr} {fs : List Expr} {s : Sh} {pos : Pos} (L : LcOk X g w sg own tg it ifs elt scope t) (hs : ∀ x, foldedSetIterable i X.env x = pure x) (hi : PI X t i (tI w sg cl W it))
    (ht : ∀ (s : Shared) (H : L2.Hp) (c : Addr) (clo : List (Str × Addr)) (fp : List Addr), L2.PTs (X.blk s H scope (compEnvC scope clo c X.env) fp) fs (tCond w sg cl W0 ifs))
    (he : ∀ (s : Shared) (H : L2.Hp) (c : Addr) (clo : List (Str × Addr)) (fp : List Addr), PE (X.blk s H scope (compEnvC scope clo c X.env) fp) e (tE w sg cl W0 elt)) :
    PE X (.ListComp e [⟨t, i, fs, 0⟩] scope pos) (tE w sg cl W (.lc own tg it ifs elt s)) :=
  PE.imp (L2.pe_lc C.calm (by rw [C.N]; exact C.nd) hi (L.ok C) (fun s H c clo fp => pg_T (C.blk (blk_kind L.blk) s H c clo fp) L.mt) ht he hs) fun σ H Q q => L.go C q
theorem s_asgLc (C : Ctx X g w sg W) {k : Nat} {y : Str} {py : Pos} {tg : Tg} {it : It} {ifs : Es} {elt : E} {scope : Scope} {t i e : Expr} {fs : List Expr} {s : Sh} {pos spos : Pos} (L : LcOk X g w sg own tg it ifs elt scope t) (hs : ∀ x, foldedSetIterable i X.env x = pure x) (hi : PI X t i (tI w sg cl W it))
    (hy : g.loc k y = true) (hl : g.sc.names.lookup y = some .local) (hln : (py.line == pos.line) = true) (hnm : (scope.names.any fun nk => nk.1 == y && (nk.2 == .local || nk.2 == .cell)) = false)
    (ht : ∀ (s : Shared) (H : L2.Hp) (c : Addr) (clo : List (Str × Addr)) (fp : List Addr), L2.PTs (X.blk s H scope (compEnvC scope clo c X.env) fp) fs (tCond w sg cl W0 ifs))
    (he : ∀ (s : Shared) (H : L2.Hp) (c : Addr) (clo : List (Str × Addr)) (fp : List Addr), PE (X.blk s H scope (compEnvC scope clo c X.env) fp) e (tE w sg cl W0 elt)) :
    PS X (.Assign [.Name y py] (.ListComp e [⟨t, i, fs, 0⟩] scope pos) spos) (tS w sg cl W (.asg (.nm k) (.lc own tg it ifs elt s))) := by
  obtain ⟨n1, n2, n3, n4⟩ := loc_ok C hy
  have hl' : X.env.scope.names.lookup y = some .local := by rw [C.sc]; exact hl
  have hsw : swapsWith (.ListComp e [⟨t, i, fs, 0⟩] scope pos) (some (.Name y py)) spos.line X.env = pure true := L2.sw_true (by rw [C.sc]; exact C.kd) hl' hln hnm
  refine PS.imp (L2.ps_setLc C.calm (by rw [C.N]; exact C.nd) n1 hl' hsw hi (L.ok C) (fun s H c clo fp => pg_T (C.blk (blk_kind L.blk) s H c clo fp) L.mt) ht he hs) fun D σ H ⟨env, F, B, fps, r, S0, hst, q⟩ => ?_
  refine L.go C (s := s) ?_
  refine ev_first (ef := effS sg (.asg (.nm k) (.lc own tg it ifs elt s))) S0 mem_l hst q fun x v env1 H1 F1 fps1 S1 T1 V1 h => ?_
  obtain ⟨z, hz, h⟩ := opt_of h
  obtain ⟨F2, f1, S2, T2, R2, K2, Fr2⟩ := keep_ok kpK hz S1 T1 V1
  rcases bind_ok h with ⟨_, env2, h3, h4⟩ | ⟨_, _, _, h3, _⟩
  · cases pure_ok h4
    cases setV_ok (show setV k (some z) env1 = some _ from h3)
    refine q _ H1 F2 (stp fps1 k f1) (S2.store n4 R2 K2) (T2.tgt (sl := [k]) ⟨fun j hj => stp_ne fun e => hj (by rw [e]; exact List.mem_singleton.mpr rfl), fun j hj a ha => ?_⟩ mem_r Fr2)
    have ej := List.mem_singleton.mp hj
    subst ej
    rw [stp_same] at ha
    exact .inl ha
  · exact (asgT_noex _ _ _ _ _ _ h3).elim
/-! ### tests -/
theorem pt_ite {c a b : Expr} {tc ta tb : TT} {pos : Pos} (hc : PT X c tc) (ha : PT X a ta) (hb : PT X b tb) : PT X (.IfExp c a b pos) (fun σ H Q => tc σ H fun k H1 => if k = true then ta σ H1 Q else tb σ H1 Q) := by
  refine ⟨fun pins s σ H Q I h => ?_⟩
  show wpAny _ _ (do if ← isTrue c X.env (eval c X.env) then isTrue a X.env (eval a X.env) else isTrue b X.env (eval b X.env)) _ _ s
  refine wpAny_bind (thn (hc.run pins s σ H _ I h) fun k s1 ⟨H1, I1, q1⟩ => ?_)
  cases k with
  | true => exact ha.run pins s1 σ H1 Q I1 q1
  | false => exact hb.run pins s1 σ H1 Q I1 q1
theorem and_pt {a b : E} {Q : Bool → L2.Hp → Prop} (h : tB (tE w sg cl W (.and a b)) σ H Q) : tAnd (tB (tE w sg cl W a)) (tB (tE w sg cl W b)) σ H Q := by
  refine tE.mono (and_go h) fun x H1 ⟨c, e, z⟩ => ⟨c, e, ?_⟩
  cases c with
  | true => exact z
  | false =>
    obtain ⟨k, hk, z⟩ := z
    cases hk
    exact z
theorem or_pt {a b : E} {Q : Bool → L2.Hp → Prop} (h : tB (tE w sg cl W (.or a b)) σ H Q) : tOr (tB (tE w sg cl W a)) (tB (tE w sg cl W b)) σ H Q := by
  refine tE.mono (or_go h) fun x H1 ⟨c, e, z⟩ => ⟨c, e, ?_⟩
  cases c with
  | false => exact z
  | true =>
    obtain ⟨k, hk, z⟩ := z
    cases hk
    exact z
/-- the one or the other, as a test -/
abbrev tTru (K : PySem.W.Frag) (t : TE) : TT := fun σ H Q => t σ H fun x H1 => ∃ k, L2.TruV K x H1 k ∧ Q k H1
theorem orv_pt {a b : E} {Q : Bool → L2.Hp → Prop} (h : tB (tE w sg cl W (.orv a b)) σ H Q) : tOr (tTru w.K (tE w sg cl W a)) (tTru w.K (tE w sg cl W b)) σ H Q := by
  refine tE.mono (orv_go h) fun x H1 ⟨k, e, z⟩ => ⟨k, e, ?_⟩
  cases k with
  | false =>
    rw [if_neg (by simp)] at z
    refine tE.mono z fun y H2 ⟨c, e2, q⟩ => ⟨c, ?_, q⟩
    subst e2
    rfl
  | true =>
    obtain ⟨c, e2, q⟩ := z
    subst e2
    cases (show true = c from e)
    exact q
theorem not_pt {a : E} {Q : Bool → L2.Hp → Prop} (h : tB (tE w sg cl W (.not a)) σ H Q) : tNot (tB (tE w sg cl W a)) σ H Q := by
  refine tE.mono (not_go h) fun x H1 ⟨c, e, k, hk, z⟩ => ⟨c, e, ?_⟩
  cases hk
  exact z
theorem chn_pt {o p : Op} {a b c : E} {R R' : R2} {Q : Bool → L2.Hp → Prop} (h : tTest (tE w sg cl W (.chn o p a b c)) σ H Q) : tTest (tE w sg cl W (.chn o p a b c)) σ H Q := h
theorem c_chn (C : Ctx X g w sg W) {o p : Op} {q r : CmpOp} {a b c : E} {l m n : Expr} {pos : Pos} (ho : opCmp o = some q) (hp : opCmp p = some r) (hm : lastMarks [q, r] [m, n] = false) (wf1 : out a.root (effE sg b) = true) (wf2 : out b.root (effE sg c) = true) (ha : PE X l (tE w sg cl W a)) (hb : PE X m (tE w sg cl W b)) (hc : PE X n (tE w sg cl W c)) :
    PE X (.Compare l [q, r] [m, n] pos) (tE w sg cl W (.chn o p a b c)) ∧ PT X (.Compare l [q, r] [m, n] pos) (tB (tE w sg cl W (.chn o p a b c))) := by
  obtain ⟨R, h1, h2⟩ := cmp_ok C ho
  obtain ⟨R', h3, h4⟩ := cmp_ok C hp
  exact ⟨PE.imp (pe_chain h2 h4 ha hb hc hm) fun σ H Q z => chn_go h1 h3 wf1 wf2 z, PT.imp (pt_chain h2 h4 ha hb hc hm) fun σ H Q z => chn_go h1 h3 wf1 wf2 z⟩
theorem c_sl2 (C : Ctx X g w sg W) {a b c : E} {l x y : Expr} {p2 pos : Pos} (wf : wfE sg (.sl2 a b c) = true) (ha : PE X l (tE w sg cl W a)) (hb : PE X x (tE w sg cl W b)) (hc : PE X y (tE w sg cl W c)) : PE X (.Subscript l (.Slice (some x) (some y) none p2) pos) (tE w sg cl W (.sl2 a b c)) :=
  PE.imp (pe_slice slr_all ha (po_some hb) (po_some hc)) fun σ H Q q => by
    rw [C.K]
    exact sl2_go wf q
/-! ### two names at once -/
theorem s_par2 (C : Ctx X g w sg W) {i j : Nat} {y z : Str} {a b : E} {u v : Expr} {py pz pt pos : Pos} {kt k2 pt2} (hij : i ≠ j) (hyz : y ≠ z) (hy : isLoc g i y = true) (hz : isLoc g j z = true) (hl : (pz.line == py.line) = true) (n1 : notStar u = true) (n2 : notStar v = true)
    (hf : [u, v].all (foldedForSure 8) = false) (hc : [u, v].all (constantsAlone 8) = false) (ha : PA X [u, v] (tG w sg cl W keepK (.cons a (.cons b .nil)))) :
    PS X (.Assign [.Tuple [.Name y py, .Name z pz] kt pt] (.Tuple [u, v] k2 pt2) pos) (tS w sg cl W (.par (.cons (.nm i) (.cons (.nm j) .nil)) (.cons a (.cons b .nil)))) := by
  obtain ⟨y1, y2⟩ := and2 hy
  obtain ⟨y1, y3⟩ := and2 y1
  obtain ⟨z1, z2⟩ := and2 hz
  obtain ⟨z1, z3⟩ := and2 z1
  have loc : ∀ {x : Str}, (match g.sc.names.lookup x with | some .local => true | _ => false) = true → X.env.scope.names.lookup x = some .local := fun {x} h => by
    rw [C.sc]
    split at h
    · assumption
    · cases h
  have ly := loc y3
  have lz := loc z3
  have nio : ∀ {k : Nat}, (!g.io.contains k) = true → ∀ v, (k, v) ∉ w.io := fun {k} h v hv => by
    rw [List.contains_iff_mem.mpr (C.io k v hv)] at h
    cases h
  have hw : swappedStores [.Tuple [.Name y py, .Name z pz] kt pt] (.Tuple [u, v] k2 pt2) X.env = pure (some [y, z]) := by
    have kk : X.env.blockKind = .function := by
      have : X.env.scope.kind = .function := by rw [C.sc]; exact C.kd
      unfold PySem.Env.blockKind
      rw [this]
      rfl
    have ky : X.env.kindOf y = some .local := ly
    have kz : X.env.kindOf z = some .local := lz
    have n12 : ([y, z] : List Str).eraseDups.length = 2 := by
      have : (z == y) = false := beq_eq_false_iff_ne.mpr fun e => hyz e.symm
      simp [List.eraseDups_cons, this]
    unfold swappedStores
    dsimp only [List.head?_cons, Option.map_some, Option.getD_some, Expr.pos]
    simp only [List.filterMap_cons, List.filterMap_nil, ky, kz, hl, beq_self_eq_true, Bool.and_self, if_true, kk]
    refine Eq.trans (if_neg (by simp)) ?_
    refine Eq.trans (if_neg fun h => ?_) ?_
    · cases u <;> first | (cases n1; done) | (cases v <;> first | (cases n2; done) | cases h)
    refine Eq.trans (if_neg (by rw [n12]; simp)) ?_
    refine Eq.trans (if_neg (by rw [hf]; simp)) ?_
    exact if_neg (by rw [hc]; simp)
  refine PS.imp (L2.ps_par C.calm (by rw [C.N]; exact C.nd) (by rw [C.N]; exact of_decide_eq_true y1) (by rw [C.N]; exact of_decide_eq_true z1) hij ly lz ha hw) fun D σ H ⟨env, F, B, fps, r, S0, hst, q⟩ => ?_
  have hst' : M.bind (evG sg cl keepK (.cons a (.cons b .nil))) (fun xs => M.bind (parT (.cons (.nm i) (.cons (.nm j) .nil)) xs) fun _ => M.pure Fl.nx) env = some r := hst
  rcases bind_ok hst' with ⟨xs, env1, h1, h2⟩ | ⟨c, fs, env1, h1, rfl⟩
  · refine ⟨env, F, B, fps, _, S0, h1, fun vs H1 F1 fps1 fp S1 T1 R1 K1 Fr1 => ?_⟩
    have hlen := evG_length h1
    match xs, hlen, R1, h2 with
    | [x1, x2], _, R1, h2 =>
      obtain ⟨v1, q1, f1, q2, rfl, rfl, r1, R1⟩ := R1
      obtain ⟨v2, q3, f2, q4, rfl, rfl, r2, e1, e2⟩ := R1
      subst e1 e2
      refine ⟨v1, v2, rfl, ?_⟩
      have h2' : some (Out.ok Fl.nx ((env1.set i (some x1)).set j (some x2))) = some r := h2
      cases h2'
      have e2 : f2 ++ [] = f2 := List.append_nil _
      rw [e2] at K1 Fr1
      have S2 := S1.store (nio y2) r1 K1.left
      have K2 : Kp F1 B H1 (stp fps1 i f1) f2 := by
        obtain ⟨_, m2, m3⟩ := List.nodup_append.mp K1.nd
        refine ⟨m2, fun a ha => K1.nf a (List.mem_append_right _ ha), fun a ha => K1.hd a (List.mem_append_right _ ha), fun a ha k hk => ?_⟩
        by_cases hki : k = i
        · subst hki
          rw [stp_same] at hk
          exact m3 a hk a ha rfl
        · rw [stp_ne hki] at hk
          exact K1.ds a (List.mem_append_right _ ha) k hk
      have S3 := S2.store (nio z2) r2 K2
      refine q _ H1 F1 _ S3 ?_
      have T2 : Stp (effS sg (.par (.cons (.nm i) (.cons (.nm j) .nil)) (.cons a (.cons b .nil)))) F H fps F1 H1 fps1 := T1.weak mem_l
      refine T2.tgt (sl := [i, j]) (f1 := f1 ++ f2) ⟨fun k hk => ?_, fun k hk a ha => ?_⟩ (fun k hk => mem_r k hk) (Fr1.weak mem_l)
      · rw [stp_ne fun e => hk (by rw [e]; simp), stp_ne fun e => hk (by rw [e]; simp)]
      · by_cases hkj : k = j
        · subst hkj
          rw [stp_same] at ha
          exact .inl (List.mem_append_right _ ha)
        · rw [stp_ne hkj] at ha
          by_cases hki : k = i
          · subst hki
            rw [stp_same] at ha
            exact .inl (List.mem_append_left _ ha)
          · rw [stp_ne hki] at ha
            exact .inr ⟨k, hk, ha⟩
  · exact ⟨env, F, B, fps, _, S0, h1, fun cls dx H1 F1 fps1 S1 T1 x1 => q cls dx σ H1 F1 fps1 S1 (T1.weak mem_l) x1⟩
end
end DI
set_option  maxHeartbeats  8000000
/-! DI9i: every expression of the core. -/
namespace DI
open PySem L2
section
variable {w : Wd} {sg : Sig} {cl : Calls}
def isBool : Expr → Bool
  | .BoolOp .. => true
  | _ => false
structure EOk (X : Cx) (w : Wd) (sg : Sig) (cl : Calls) (W : WX) (c : E) (x : Expr) : Prop where
  pe : PE X x (tE w sg cl W c)
  pt : PT X x (tB (tE w sg cl W c))
  pw : isBool x = true → PW X x (tB (tE w sg cl W c))
theorem EOk.plain {X : Cx} {W : WX} {c : E} {x : Expr} (h : plainT x = true) (p : PE X x (tE w sg cl W c)) : EOk X w sg cl W c x := by
  refine ⟨p, pt_val p fun whole => ?_, fun hb => ?_⟩
  · cases x <;> first | rfl | (cases h; done) | skip
    rename_i op _ _
    cases op <;> first | rfl | cases h
  · cases x <;> first | (cases hb; done) | cases h
theorem plain_pt {X : Cx} {W : WX} {c : E} {x : Expr} (h : plainT x = true) (p : PE X x (tE w sg cl W c)) : PT X x (tTru X.K (tE w sg cl W c)) := by
  refine pt_truth p fun whole => ?_
  cases x <;> first | rfl | (cases h; done) | skip
  rename_i op _ _
  cases op <;> first | rfl | cases h
theorem EOk.both {X : Cx} {W : WX} {c : E} {x : Expr} (hb : isBool x = false) (p : PE X x (tE w sg cl W c) ∧ PT X x (tB (tE w sg cl W c))) : EOk X w sg cl W c x := ⟨p.1, p.2, fun h => by rw [hb] at h; cases h⟩
theorem EOk.wall {X : Cx} {W : WX} {x : Expr} : EOk X w sg cl W .wall x := by
  have no : ∀ {σ H Q}, ¬ tE w sg cl W .wall σ H Q := fun ⟨env, F, B, fps, r, S, he, q⟩ => by cases he
  exact ⟨⟨fun pins s σ H Q I h => (no h).elim⟩, ⟨fun pins s σ H Q I h => (no h).elim⟩, fun _ => ⟨fun wh pins s σ H Q I h => (no h).elim⟩⟩
/-- a row -/
structure EsOk (X : Cx) (w : Wd) (sg : Sig) (cl : Calls) (W : WX) (as : Es) (xs : List Expr) : Prop where
  pa : wfEs sg true as = true → PA X xs (tEs w sg cl W as)
  pg : ∀ kp, KpG kp → PA X xs (tG w sg cl W kp as)
  ln : xs.length = as.length
  ns : xs.all notStar = true
theorem wfEs_any {b : Bool} : ∀ {as : Es}, wfEs sg b as = true → wfEs sg false as = true
  | .nil, _ => rfl
  | .cons e es, h => by
    obtain ⟨h1, h2⟩ := and2 (show ((wfE sg e && (!b || out e.root (effEs sg es))) && wfEs sg b es) = true from h)
    obtain ⟨h3, _⟩ := and2 h1
    show ((wfE sg e && (!false || out e.root (effEs sg es))) && wfEs sg false es) = true
    rw [h3, wfEs_any h2]
    rfl
theorem EsOk.nil {X : Cx} {W : WX} : EsOk X w sg cl W .nil [] := ⟨fun _ => PA.imp pa_nil fun _ _ _ h => tEs_nil h, fun kp _ => PA.imp pa_nil fun _ _ _ h => tG_nil h, rfl, rfl⟩
theorem EsOk.cons {X : Cx} {W : WX} {e : E} {es : Es} {x : Expr} {xs : List Expr} (hn : notStar x = true) (h : EOk X w sg cl W e x) (t : EsOk X w sg cl W es xs) : EsOk X w sg cl W (.cons e es) (x :: xs) := by
  refine ⟨fun wf => ?_, fun kp K => ?_, by rw [List.length_cons, t.ln]; rfl, by show (notStar x && xs.all notStar) = true; rw [hn, t.ns]; rfl⟩
  · obtain ⟨w1, w2, w3⟩ := wfEs_out wf
    exact PA.imp (pa_pl h.pe (t.pa w3) hn) fun _ _ _ q => tEs_cons (w2 rfl) q
  · exact PA.imp (pa_pl h.pe (t.pg kp K) hn) fun _ _ _ q => tG_cons K q
theorem matchEs_ln {g : Gam} : ∀ {as : Es} {xs : List Expr}, matchEs g as xs = true → xs.length = as.length ∧ xs.all notStar = true
  | .nil, [], _ => ⟨rfl, rfl⟩
  | .nil, _ :: _, h => by cases h
  | .cons _ _, [], h => by cases h
  | .cons e es, x :: xs, h => by
    obtain ⟨h1, h2⟩ := and2 (show (notStar x && (matchE g e x && matchEs g es xs)) = true from h)
    obtain ⟨h3, h4⟩ := and2 h2
    obtain ⟨l1, l2⟩ := matchEs_ln h4
    exact ⟨by rw [List.length_cons, l1]; rfl, by show (notStar x && xs.all notStar) = true; rw [h1, l2]; rfl⟩
theorem matchE_set {g : Gam} {c : E} {elts : List Expr} {k : Nat} {pos : Pos} (h : matchE g c (.Set elts k pos) = true) : c = .wall := by
  cases c <;> first | rfl | cases h | skip
  all_goals first
    | (rename_i p; cases p <;> cases h; done)
    | (rename_i o as
       cases as <;> first
         | (cases h; done)
         | (rename_i e es
            cases es <;> first
              | (cases h; done)
              | (cases o <;> first | (cases h; done) | (rename_i b1 b2; cases b1 <;> cases b2 <;> cases h))
              | (rename_i e2 es2
                 cases es2 <;> first
                   | (cases h; done)
                   | (cases o <;> first | (cases h; done) | (rename_i b1 b2; cases b1 <;> cases b2 <;> cases h)))))
theorem foldS {g : Gam} {it : It} {x : Expr} (h : matchI g it x = true) (en : PySem.Env) : (∀ v, foldedSetIterable x en v = pure v) ∨ ∀ env, its sg cl it env = none := by
  cases x <;> first | exact .inl fun _ => rfl | skip
  refine .inr ?_
  cases it with
  | e c =>
    have h' : matchE g c _ = true := h
    have e := matchE_set h'
    subst e
    exact fun env => rfl
  | dict c =>
    have h' : matchE g c _ = true := h
    have e := matchE_set h'
    subst e
    exact fun env => rfl
  | _ => cases h
end
end DI
/-! DI9j: every expression of the core stands for what it matches. -/
namespace DI
open PySem L2
theorem PW.imp {X : Cx} {e : Expr} {t t' : TT} (h : PW X e t) (hi : ∀ σ H Q, t' σ H Q → t σ H Q) : PW X e t' := ⟨fun wh pins s σ H Q I q => h.run wh pins s σ H Q I (hi σ H Q q)⟩
theorem and3 {a b c : Bool} (h : (a && b && c) = true) : a = true ∧ b = true ∧ c = true := by
  obtain ⟨h, h3⟩ := and2 h
  obtain ⟨h1, h2⟩ := and2 h
  exact ⟨h1, h2, h3⟩
theorem not_eq {b : Bool} (h : (!b) = true) : b = false := by cases b <;> first | rfl | cases h
theorem matchE_ns {g : Gam} {c : E} {x : Expr} (h : matchE g c x = true) : notStar x = true := by
  cases x <;> first | rfl | skip
  cases c <;> first | cases h | skip
  all_goals first
    | (rename_i p; cases p <;> cases h; done)
    | (rename_i o as
       cases as <;> first
         | (cases h; done)
         | (rename_i e es
            cases es <;> first
              | (cases h; done)
              | (cases o <;> first | (cases h; done) | (rename_i b1 b2; cases b1 <;> cases b2 <;> cases h))
              | (rename_i e2 es2
                 cases es2 <;> first
                   | (cases h; done)
                   | (cases o <;> first | (cases h; done) | (rename_i b1 b2; cases b1 <;> cases b2 <;> cases h)))))
theorem matchI_rng {g : Gam} {as : Es} {x : Expr} (h : matchI g (.rng as) x = true) : ∃ y p args pos, x = .Call (.Name y p) args [] pos ∧ g.glo y "range" = true ∧ matchEs g as args = true := by
  cases x <;> first | (cases h; done) | skip
  rename_i fn args kws pos
  cases fn <;> first | (cases h; done) | skip
  cases kws <;> first | (cases h; done) | skip
  obtain ⟨h1, h2⟩ := and2 h
  exact ⟨_, _, _, _, rfl, h1, h2⟩
theorem matchI_enum {g : Gam} {c : E} {x : Expr} (h : matchI g (.enum c) x = true) : ∃ y p e pos, x = .Call (.Name y p) [e] [] pos ∧ g.glo y "enumerate" = true ∧ matchE g c e = true := by
  cases x <;> first | (cases h; done) | skip
  rename_i fn args kws pos
  cases fn <;> first | (cases h; done) | skip
  cases args <;> first | (cases h; done) | skip
  rename_i a1 args
  cases args <;> first | (cases h; done) | skip
  cases kws <;> first | (cases h; done) | skip
  obtain ⟨h1, h2⟩ := and2 h
  exact ⟨_, _, _, _, rfl, h1, h2⟩
theorem matchI_zip {g : Gam} {c d : E} {x : Expr} (h : matchI g (.zip c d) x = true) : ∃ y p e f pos, x = .Call (.Name y p) [e, f] [] pos ∧ g.glo y "zip" = true ∧ matchE g c e = true ∧ matchE g d f = true := by
  cases x <;> first | (cases h; done) | skip
  rename_i fn args kws pos
  cases fn <;> first | (cases h; done) | skip
  cases args <;> first | (cases h; done) | skip
  rename_i a1 args
  cases args <;> first | (cases h; done) | skip
  rename_i a2 args
  cases args <;> first | (cases h; done) | skip
  cases kws <;> first | (cases h; done) | skip
  obtain ⟨h1, h2, h3⟩ := and3 h
  exact ⟨_, _, _, _, _, rfl, h1, h2, h3⟩
section
variable {w : Wd} {sg : Sig} {cl : Calls}
theorem c_pl {X : Cx} {g : Gam} {W : WX} (C : Ctx X g w sg W) {p : Pl} {x : Expr} (h : matchPl g p x = true) : EOk X w sg cl W (.pl p) x := by
  refine EOk.plain ?_ (PE.imp (pe_pl C h) fun σ H Q ⟨env, F, B, fps, r, S, he, q⟩ => ?_)
  · cases x <;> first | rfl | (cases p <;> cases h)
  · obtain ⟨y, hy, rfl⟩ := Option.map_eq_some_iff.mp (show (p.get sg.gd env).map (fun x => Out.ok x env) = some r from he)
    exact ⟨env, F, B, fps, y, S, hy, fun v hv => q v H F fps S (Stp.refl S.fh) hv⟩
mutual
theorem e_ok : ∀ (c : E) (X : Cx) (g : Gam) (W : WX) (x : Expr), Ctx X g w sg W → CallsOk X g w sg cl → matchE g c x = true → wfE sg c = true → EOk X w sg cl W c x := by
  intro c X g W x C K h wf
  unfold matchE at h
  split at h
  · exact c_pl C h
  · exact .plain rfl (c_mv C h)
  · exact .plain rfl (c_fz C h)
  · exact .plain rfl (c_cst h)
  · obtain ⟨h1, h2⟩ := and2 h
    exact .plain rfl (c_glo C h1 h2)
  · obtain ⟨h1, h2, h3⟩ := and3 h
    obtain ⟨w1, _, w2⟩ := wfEs_out wf
    exact .plain rfl (c_bin C (of_decide_eq_true h1) wf (e_ok _ X g W _ C K h2 w1).pe (e_ok _ X g W _ C K h3 (wfEs_out w2).1).pe)
  · obtain ⟨h, h4⟩ := and2 h
    obtain ⟨h1, h2, h3⟩ := and3 h
    obtain ⟨w1, _, w2⟩ := wfEs_out wf
    exact .both rfl (c_cmp C (of_decide_eq_true h1) (not_eq h4) wf (e_ok _ X g W _ C K h2 w1).pe (e_ok _ X g W _ C K h3 (wfEs_out w2).1).pe)
  · rename_i o p a b c l q r m n _
    obtain ⟨h, h6⟩ := and2 h
    obtain ⟨h, h5⟩ := and2 h
    obtain ⟨h, h4⟩ := and2 h
    obtain ⟨h1, h2, h3⟩ := and3 h
    obtain ⟨w1, wf⟩ := and2 (show (wfE sg a && (wfE sg b && (wfE sg c && (out a.root (effE sg b) && out b.root (effE sg c))))) = true from wf)
    obtain ⟨w2, wf⟩ := and2 wf
    obtain ⟨w3, wf⟩ := and2 wf
    obtain ⟨w4, w5⟩ := and2 wf
    exact .both rfl (c_chn C (of_decide_eq_true h1) (of_decide_eq_true h2) (not_eq h6) w4 w5 (e_ok _ X g W _ C K h3 w1).pe (e_ok _ X g W _ C K h4 w2).pe (e_ok _ X g W _ C K h5 w3).pe)
  · exact .both rfl (c_isN C wf (e_ok _ X g W _ C K h (wfEs_out wf).1).pe)
  · exact .both rfl (c_notN C wf (e_ok _ X g W _ C K h (wfEs_out wf).1).pe)
  · exact .plain rfl (c_neg wf (e_ok _ X g W _ C K h (wfEs_out wf).1).pe)
  · obtain ⟨h1, h2, h3⟩ := and3 h
    obtain ⟨w1, _, w2⟩ := wfEs_out wf
    exact .plain rfl (c_ix C h1 wf (e_ok _ X g W _ C K h2 w1).pe (e_ok _ X g W _ C K h3 (wfEs_out w2).1).pe)
  · exact .plain rfl (c_sl00 C wf (e_ok _ X g W _ C K h (wfEs_out wf).1).pe)
  · obtain ⟨h1, h2⟩ := and2 h
    obtain ⟨w1, _, w2⟩ := wfEs_out wf
    exact .plain rfl (c_sl10 C wf (e_ok _ X g W _ C K h1 w1).pe (e_ok _ X g W _ C K h2 (wfEs_out w2).1).pe)
  · obtain ⟨h1, h2⟩ := and2 h
    obtain ⟨w1, _, w2⟩ := wfEs_out wf
    exact .plain rfl (c_sl01 C wf (e_ok _ X g W _ C K h1 w1).pe (e_ok _ X g W _ C K h2 (wfEs_out w2).1).pe)
  · rename_i a b c l x y _ _
    obtain ⟨h1, h2, h3⟩ := and3 h
    have wf0 := wf
    obtain ⟨w1, wf⟩ := and2 (show (wfE sg a && (wfE sg b && (wfE sg c && (out a.root (effE sg b ++ effE sg c) && out b.root (effE sg c))))) = true from wf)
    obtain ⟨w2, wf⟩ := and2 wf
    obtain ⟨w3, wf⟩ := and2 wf
    exact .plain rfl (c_sl2 C wf0 (e_ok _ X g W _ C K h1 w1).pe (e_ok _ X g W _ C K h2 w2).pe (e_ok _ X g W _ C K h3 w3).pe)
  · exact .plain rfl (c_rev C wf (e_ok _ X g W _ C K h (wfEs_out wf).1).pe)
  · obtain ⟨h1, h2, h3⟩ := and3 h
    split at h2
    · rename_i z hz
      exact .plain rfl (c_isi C hz h1 h2 wf (matchE_ns h3) (e_ok _ X g W _ C K h3 (wfEs_out wf).1).pe)
    · cases h2
  · obtain ⟨h1, h2, h3⟩ := and3 h
    exact .plain rfl (c_setlen C h1 h2 wf (matchE_ns h3) (e_ok _ X g W _ C K h3 (wfEs_out wf).1).pe)
  · obtain ⟨h1, h2, h3⟩ := and3 h
    exact .plain rfl (c_sortset C h1 h2 wf (matchE_ns h3) (e_ok _ X g W _ C K h3 (wfEs_out wf).1).pe)
  · rename_i o as x _ args _ _ _ _
    obtain ⟨h1, h2, h3⟩ := and3 h
    split at h2
    · rename_i y hy
      have R := es_ok as X g W args C K h3 (wfEs_any wf)
      refine .plain rfl (c_call C hy (fun e => by subst e; exact h1) h2 (R.pa wf) (fun e => ?_) R.ns)
      have l := R.ln
      rw [e] at l
      have : as.length = 0 := l.symm
      rw [this] at hy
      unfold opFn at hy
      split at hy <;> first | omega | (cases hy; done)
    · cases h2
  · rename_i o a as l m apos args pos
    obtain ⟨h, h6⟩ := and2 h
    obtain ⟨h, h5⟩ := and2 h
    obtain ⟨h, h4⟩ := and2 h
    obtain ⟨h1, h2, h3⟩ := and3 h
    obtain ⟨w1, wf⟩ := and2 (show (wfE sg a && (wfEs sg true as && out a.root (effEs sg as))) = true from wf)
    obtain ⟨w2, w3⟩ := and2 wf
    split at h1
    · rename_i y hy
      have em := of_decide_eq_true h1
      subst em
      have R := es_ok as X g W args C K h6 (wfEs_any w2)
      refine .plain rfl (c_bm C hy h4 h2 (of_decide_eq_true h3) w3 (e_ok a X g W l C K h5 w1).pe (R.pa w2) (fun e => ?_) R.ns)
      have ll := R.ln
      rw [e] at ll
      have : as.length = 0 := ll.symm
      rw [this] at hy
      unfold opMt at hy
      split at hy <;> first | omega | (cases hy; done)
    · cases h1
  · obtain ⟨h1, h2⟩ := and2 h
    exact .plain rfl (c_tup h1 ((es_ok _ X g W _ C K h2 wf).pg take kpT))
  · obtain ⟨h1, h2⟩ := and2 h
    exact .plain rfl (c_lst h1 ((es_ok _ X g W _ C K h2 wf).pg _ (kpA _)))
  · exact .plain rfl c_newd
  · rename_i a b l r pos
    obtain ⟨h1, h2⟩ := and2 h
    obtain ⟨w1, w2⟩ := and2 (show (wfE sg a && wfE sg b) = true from wf)
    have A := e_ok a X g W l C K h1 w1
    have Bk := e_ok b X g W r C K h2 w2
    have P := PW.imp (pw_and (pos := pos) A.pt (pw_and1 Bk.pt)) fun σ H Q q => and_pt q
    exact ⟨PE.imp (pe_and A.pe (pe_one Bk.pe)) fun σ H Q q => and_go q, P.pt, fun _ => P⟩
  · rename_i a b l r pos
    obtain ⟨h1, h2⟩ := and2 h
    obtain ⟨w1, w2⟩ := and2 (show (wfE sg a && wfE sg b) = true from wf)
    have A := e_ok a X g W l C K h1 w1
    have Bk := e_ok b X g W r C K h2 w2
    have P := PW.imp (pw_or (pos := pos) A.pt (pw_or1 Bk.pt)) fun σ H Q q => or_pt q
    exact ⟨PE.imp (pe_or A.pe (pe_one Bk.pe)) fun σ H Q q => or_go q, P.pt, fun _ => P⟩
  · rename_i a b l r q es pos
    obtain ⟨h1, h2⟩ := and2 h
    obtain ⟨w1, w2⟩ := and2 (show (wfE sg a && wfE sg b) = true from wf)
    have A := e_ok a X g W l C K h1 w1
    have Bk := e_ok b X g W (.BoolOp .And (r :: q :: es) pos) C K h2 w2
    have P := PW.imp (pw_and A.pt (Bk.pw rfl)) fun σ H Q q => and_pt q
    exact ⟨PE.imp (pe_and A.pe Bk.pe) fun σ H Q q => and_go q, P.pt, fun _ => P⟩
  · rename_i a b l r q es pos
    obtain ⟨h1, h2⟩ := and2 h
    obtain ⟨w1, w2⟩ := and2 (show (wfE sg a && wfE sg b) = true from wf)
    have A := e_ok a X g W l C K h1 w1
    have Bk := e_ok b X g W (.BoolOp .Or (r :: q :: es) pos) C K h2 w2
    have P := PW.imp (pw_or A.pt (Bk.pw rfl)) fun σ H Q q => or_pt q
    exact ⟨PE.imp (pe_or A.pe Bk.pe) fun σ H Q q => or_go q, P.pt, fun _ => P⟩
  · rename_i a b l r pos
    obtain ⟨h, h2⟩ := and2 h
    obtain ⟨h, h1⟩ := and2 h
    obtain ⟨p1, p2⟩ := and2 h
    obtain ⟨w1, w2⟩ := and2 (show (wfE sg a && wfE sg b) = true from wf)
    have A := e_ok a X g W l C K h1 w1
    have Bk := e_ok b X g W r C K h2 w2
    have hK : X.K = w.K := C.K
    have P : PW X (.BoolOp .Or [l, r] pos) (tB (tE w sg cl W (.orv a b))) := PW.imp (pw_or (pos := pos) (plain_pt p1 A.pe) (pw_or1 (plain_pt p2 Bk.pe))) fun σ H Q q => by
      rw [hK]
      exact orv_pt q
    exact ⟨PE.imp (pe_orT A.pe (pe_one Bk.pe)) fun σ H Q q => by
      rw [hK]
      exact orv_go q, P.pt, fun _ => P⟩
  · rename_i a l _
    have A := e_ok a X g W l C K h wf
    exact .both rfl ⟨PE.imp (pe_not A.pe) fun σ H Q q => not_go q, PT.imp (pt_not A.pt) fun σ H Q q => not_pt q⟩
  · rename_i c a b x y z _
    obtain ⟨h1, h2, h3⟩ := and3 h
    obtain ⟨w1, wf⟩ := and2 (show (wfE sg c && (wfE sg a && wfE sg b)) = true from wf)
    obtain ⟨w2, w3⟩ := and2 wf
    have A := e_ok c X g W x C K h1 w1
    have B1 := e_ok a X g W y C K h2 w2
    have B2 := e_ok b X g W z C K h3 w3
    exact .both rfl ⟨PE.imp (pe_ifExp A.pt B1.pe B2.pe) fun σ H Q q => ite_go q, PT.imp (pt_ite A.pt B1.pt B2.pt) fun σ H Q q => ite_go q⟩
  · rename_i e f l a _
    obtain ⟨h1, h2, h3⟩ := and3 h
    obtain ⟨w1, w2⟩ := and2 (show (wfE sg e && !e.place) = true from wf)
    exact .plain rfl (c_attr C (of_decide_eq_true h1) h2 (e_ok e X g W l C K h3 w1).pe)
  · rename_i m p as l x apos args pos
    obtain ⟨h, h6⟩ := and2 h
    obtain ⟨h, h5⟩ := and2 h
    obtain ⟨h, h4⟩ := and2 h
    obtain ⟨h1, h2, h3⟩ := and3 h
    obtain ⟨w1, w2⟩ := and2 (show (wfEs sg false as && !(effEs sg as).contains p.root) = true from wf)
    split at h2
    · rename_i y hy
      have em := of_decide_eq_true h2
      subst em
      have R := es_ok as X g W args C K h6 w1
      have hx : m ≠ .popAt := fun e => by subst e; cases h1
      have hc : contOk m (.lst []) = true := by
        unfold muOk at h1
        split at h1
        · cases h1
        · exact h1
      exact .plain rfl (c_mut C hy hc hx h3 (of_decide_eq_true h4) w2 h5 R.pg R.ln R.ns)
    · cases h2
  · rename_i f as x _ args _
    obtain ⟨h1, h2, h3⟩ := and3 h
    obtain ⟨l1, l2⟩ := matchEs_ln h3
    refine .plain rfl (c_callE C K h1 h2 wf (fun e => ?_) l2 (ca_ok as _ _ X g W args C K h3 wf fun i hi => hi))
    rw [e] at l1
    cases as with
    | nil => rfl
    | cons _ _ => cases l1
  · rename_i c f o as l m apos args pos
    obtain ⟨h, h6⟩ := and2 h
    obtain ⟨h, h5⟩ := and2 h
    obtain ⟨h, h4⟩ := and2 h
    obtain ⟨h, h3⟩ := and2 h
    obtain ⟨h, h2⟩ := and2 h
    obtain ⟨h0, h1⟩ := and2 h
    have wf' : (match sg.modes f with
      | [] => false
      | _ :: ms => wfE sg o && (out o.root (effC sg ms as) && (out o.root (ioRoots ms as) && wfC sg (ioRoots ms as) ms as))) = true := by
      simp only [wfE] at wf
      exact wf
    split at wf'
    · cases wf'
    · rename_i md ms hmd
      obtain ⟨w1, w2⟩ := and2 wf'
      obtain ⟨_, w3⟩ := and2 w2
      obtain ⟨_, w3⟩ := and2 w3
      obtain ⟨l1, l2⟩ := matchEs_ln h6
      refine .plain rfl (c_mcallE C K h0 (of_decide_eq_true h1) hmd w2 h4 h2 (of_decide_eq_true h3) (fun e => ?_) l2 (e_ok o X g W l C K h5 w1).pe (ca_ok as _ _ X g W args C K h6 w3 fun i hi => hi))
      rw [e] at l1
      cases as with
      | nil => rfl
      | cons _ _ => cases l1
  · exact .wall
  · rename_i a f args kw pos
    exact .plain rfl (c_fzt (e_ok a X g W _ C K h wf).pe)
  · rename_i c as x _ args _
    obtain ⟨h1, h2, h3⟩ := and3 h
    obtain ⟨l1, l2⟩ := matchEs_ln h3
    refine .plain rfl (c_newE C K h1 h2 wf (fun e => ?_) l2 (ca_ok as _ _ X g W args C K h3 wf fun i hi => hi))
    rw [e] at l1
    cases as with
    | nil => rfl
    | cons _ _ => cases l1
  · rename_i own tg it ifs elt s e t i fs scope _
    obtain ⟨h, h8⟩ := and2 h
    obtain ⟨h, h7⟩ := and2 h
    obtain ⟨h, h6⟩ := and2 h
    obtain ⟨h, h5⟩ := and2 h
    obtain ⟨h, h4⟩ := and2 h
    obtain ⟨h1, h2, h3⟩ := and3 h
    obtain ⟨wf, w4⟩ := and2 (show (wfI sg it && wfEs sg false ifs && wfE sg elt && it.roots.all (fun i => !own.contains i && !(effEs sg ifs ++ effE sg elt).contains i)) = true from wf)
    obtain ⟨w1, w2, w3⟩ := and3 wf
    have kd := blk_kind h1
    rcases foldS (sg := sg) (cl := cl) h6 X.env with hfold | hno
    rotate_left
    · refine .plain rfl ⟨fun pins s' σ H Q I q => ?_⟩
      obtain ⟨env, F, B, fps, r, S, he, _⟩ := q
      rcases bind_ok (show M.bind (its sg cl it) _ env = some r from he) with ⟨_, _, z, _⟩ | ⟨_, _, _, z, _⟩
      all_goals
        rw [hno] at z
        cases z
    refine .plain rfl (c_lc C ⟨h1, h2, h3, h5, w4⟩ hfold (i_ok it X g W i t C K h6 w1 h4) (fun s H c clo fp => ?_) fun s H c clo fp => (e_ok elt _ (g.blk scope) W0 e (C.blk kd s H c clo fp) (K.blk s H c clo fp) h8 w3).pe)
    exact ifs_ok ifs _ (g.blk scope) W0 fs (C.blk kd s H c clo fp) (K.blk s H c clo fp) h7 w2
  · cases h
termination_by c => sizeOf c
theorem es_ok : ∀ (as : Es) (X : Cx) (g : Gam) (W : WX) (xs : List Expr), Ctx X g w sg W → CallsOk X g w sg cl → matchEs g as xs = true → wfEs sg false as = true → EsOk X w sg cl W as xs
  | .nil, X, g, W, [], C, K, h, wf => EsOk.nil
  | .nil, X, g, W, _ :: _, C, K, h, wf => by cases h
  | .cons _ _, X, g, W, [], C, K, h, wf => by cases h
  | .cons e es, X, g, W, x :: xs, C, K, h, wf => by
    obtain ⟨h1, h2⟩ := and2 (show (notStar x && (matchE g e x && matchEs g es xs)) = true from h)
    obtain ⟨h3, h4⟩ := and2 h2
    obtain ⟨w1, _, w2⟩ := wfEs_out wf
    exact EsOk.cons h1 (e_ok e X g W x C K h3 w1) (es_ok es X g W xs C K h4 w2)
termination_by as => sizeOf as
theorem ca_ok : ∀ (as : Es) (ms : List Md) (ios : List Nat) (X : Cx) (g : Gam) (W : WX) (xs : List Expr), Ctx X g w sg W → CallsOk X g w sg cl → matchEs g as xs = true → wfC sg ios ms as = true → (∀ i ∈ ioRoots ms as, i ∈ ios) → PA X xs (tCa w sg cl W ios ms as)
  | .nil, ms, ios, X, g, W, [], C, K, h, wf, hs => PA.imp pa_nil fun _ _ _ q => tCa_nil q
  | .nil, ms, ios, X, g, W, _ :: _, C, K, h, wf, hs => by cases h
  | .cons _ _, ms, ios, X, g, W, [], C, K, h, wf, hs => by cases h
  | .cons e es, [], ios, X, g, W, x :: xs, C, K, h, wf, hs => by cases wf
  | .cons e es, m :: ms, ios, X, g, W, x :: xs, C, K, h, wf, hs => by
    obtain ⟨h1, h2⟩ := and2 (show (notStar x && (matchE g e x && matchEs g es xs)) = true from h)
    obtain ⟨h3, h4⟩ := and2 h2
    have wf2 : wfC sg ios ms es = true := by cases m <;> exact (and2 wf).2
    cases m with
    | io =>
      have wf1 : (match (generalizing := false) e with
        | .pl p => !(ioRoots ms es).contains p.root
        | _ => false) = true := (and2 wf).1
      cases e <;> first | (cases wf1; done) | skip
      rename_i p
      have R := ca_ok es ms ios X g W xs C K h4 wf2 fun i hi => hs i (.tail _ hi)
      cases p with
      | var i =>
        have h3' : matchPl g (.var i) x = true := by
          simp only [matchE] at h3
          exact h3
        cases x <;> first | (cases h3'; done) | skip
        obtain ⟨n1, n2, n3, n4⟩ := slot_ok C h3'
        exact PA.imp (pa_pl (pe_var n1 n2 n3 n4) R h1) fun _ _ _ q => tCa_io (hs i (.head _)) q
      | _ =>
        refine ⟨fun pos pins s σ H Q I q => ?_⟩
        obtain ⟨env, F, B, fps, r, S, he, _⟩ := q
        rcases bind_ok (show (M.bind (ev sg cl (.pl _)) fun x => M.bind (M.opt (argAs (.pl _) .io x)) fun ca => M.bind (evC sg cl ms es) fun cas => M.pure (ca :: cas)) env = some r from he) with ⟨y, env1, h1, h2⟩ | ⟨_, _, _, h1, _⟩
        · obtain ⟨ca, hca, _⟩ := opt_of' h2
          cases hca
        · obtain ⟨_, _, z⟩ := Option.map_eq_some_iff.mp (show (Pl.get sg.gd env _).map (fun x => Out.ok x env) = some _ from h1)
          cases z
    | _ =>
      obtain ⟨w1, w3⟩ := and2 (and2 wf).1
      exact PA.imp (pa_pl (e_ok e X g W x C K h3 w1).pe (ca_ok es ms ios X g W xs C K h4 wf2 fun i hi => hs i hi) h1) fun _ _ _ q => tCa_cons rfl w3 q
termination_by as => sizeOf as
theorem i_ok : ∀ (it : It) (X : Cx) (g : Gam) (W : WX) (x t : Expr), Ctx X g w sg W → CallsOk X g w sg cl → matchI g it x = true → wfI sg it = true → itTg it t = true → PI X t x (tI w sg cl W it)
  | .e c, X, g, W, x, t, C, K, h, wf, ht => pi_E C.K.symm (e_ok c X g W x C K h wf).pe
  | .rng as, X, g, W, x, t, C, K, h, wf, ht => by
    obtain ⟨y, p, args, pos, rfl, h1, h2⟩ := matchI_rng h
    have R := es_ok as X g W args C K h2 (wfEs_any wf)
    refine pi_rng C h1 R.ns (R.pa wf) R.ln ?_
    rw [R.ln]
    rcases Bool.or_eq_true_iff.mp (show (as.length == 1 || as.length == 2) = true from ht) with z | z
    · exact .inl (eq_of_beq z)
    · exact .inr (eq_of_beq z)
  | .enum c, X, g, W, x, t, C, K, h, wf, ht => by
    obtain ⟨y, p, e, pos, rfl, h1, h2⟩ := matchI_enum h
    cases t <;> first | (cases ht; done) | skip
    exact pi_en C h1 (matchE_ns h2) (e_ok c X g W e C K h2 wf).pe
  | .zip c d, X, g, W, x, t, C, K, h, wf, ht => by
    obtain ⟨y, p, e, f, pos, rfl, h1, h2, h3⟩ := matchI_zip h
    obtain ⟨w1, w2, w3⟩ := and3 wf
    cases t <;> first | (cases ht; done) | skip
    exact pi_zp C h1 (matchE_ns h2) (matchE_ns h3) w3 (e_ok c X g W e C K h2 w1).pe (e_ok d X g W f C K h3 w2).pe
  | .dict c, X, g, W, x, t, C, K, h, wf, ht => by cases ht
termination_by it => sizeOf it
theorem ifs_ok : ∀ (ifs : Es) (X : Cx) (g : Gam) (W : WX) (fs : List Expr), Ctx X g w sg W → CallsOk X g w sg cl → matchEs g ifs fs = true → wfEs sg false ifs = true → L2.PTs X fs (tCond w sg cl W ifs)
  | .nil, X, g, W, [], C, K, h7, w2 => PTs.imp L2.pts_nil fun σ H Q q => cond_nil q
  | .cons f .nil, X, g, W, [y], C, K, h7, w2 => by
    obtain ⟨_, h7⟩ := and2 (show (notStar y && (matchE g f y && true)) = true from h7)
    obtain ⟨h7, _⟩ := and2 h7
    exact PTs.imp (L2.pts_one (e_ok f X g W y C K h7 (wfEs_out w2).1).pt) fun σ H Q q => cond_one q
  | .cons f (.cons _ _), X, g, W, _, C, K, h7, w2 => ⟨fun pins s σ H Q I q => by
      obtain ⟨env, F, B, fps, r, S, he, _⟩ := q
      cases he⟩
  | .nil, X, g, W, _ :: _, C, K, h7, w2 => by cases h7
  | .cons f .nil, X, g, W, [], C, K, h7, w2 => by cases h7
  | .cons f .nil, X, g, W, _ :: _ :: _, C, K, h7, w2 => by
    obtain ⟨_, h7⟩ := and2 h7
    obtain ⟨_, h7⟩ := and2 h7
    cases h7
termination_by ifs => sizeOf ifs
end
end
end DI
/-! DI9k: every statement of the core stands for what it matches. -/
namespace DI
open PySem L2
section
variable {w : Wd} {sg : Sig} {cl : Calls}
theorem ps_no {X : Cx} {W : WX} {s : S} {t : Stmt} (h : ∀ env, st sg cl s env = none) : PS X t (tS w sg cl W s) := ⟨fun pins s σ H D I ⟨env, F, B, fps, r, S, he, q⟩ => by
  rw [h env] at he
  cases he⟩
theorem all_len {sc : Scope} {f : Expr → Option Str} (hf : ∀ e y, f e = some y → isLocN sc e = true) : ∀ (ts : List Expr), ts.all (isLocN sc) = false → (ts.filterMap f).length < ts.length
  | [], h => by cases h
  | e :: ts, h => by
    have le : ∀ ts : List Expr, (ts.filterMap f).length ≤ ts.length := fun ts => List.length_filterMap_le ..
    rw [List.filterMap_cons]
    cases q : f e with
    | none =>
      have := le ts
      simp only [List.length_cons]
      omega
    | some y =>
      have hn := hf e y q
      have h' : (isLocN sc e && ts.all (isLocN sc)) = false := h
      rw [hn, Bool.true_and] at h'
      have := all_len hf ts h'
      simp only [List.length_cons]
      omega
theorem noSwap_ok {X : Cx} {g : Gam} {W : WX} (C : Ctx X g w sg W) {t x : Expr} (h : noSwap g t x = true) : swappedStores [t] x X.env = pure none := by
  cases t <;> first | rfl | skip
  · cases x <;> first | rfl | cases h
  · cases x <;> first | rfl | skip
    rename_i ts k1 p1 vs k2 p2
    have kk : (X.env.blockKind != .function) = false := by
      have e : X.env.scope.kind = .function := by rw [C.sc]; exact C.kd
      unfold PySem.Env.blockKind
      rw [e]
      rfl
    have h' : (!(ts.length == 2 || ts.length == 3) || vs.length != ts.length || (ts.all (isLocN g.sc) == false) || vs.all (foldedForSure 8)) = true := h
    unfold swappedStores
    dsimp only
    by_cases h1 : (!(ts.length == 2 || ts.length == 3) || vs.length != ts.length) = true
    · rw [h1]
      rfl
    · have h1' : (!(ts.length == 2 || ts.length == 3) || vs.length != ts.length) = false := by simpa using h1
      rw [h1', Bool.false_or] at h'
      rw [h1', kk]
      simp only [Bool.false_or, Bool.or_self, Bool.false_eq_true, if_false]
      split
      · rfl
      · split
        · rfl
        · rename_i n1 n2
          rcases Bool.or_eq_true_iff.mp h' with z | z
          · exfalso
            have := all_len (sc := g.sc) (f := fun e => match e with
              | .Name id pos => if (X.env.kindOf id == some .local && pos.line == (ts.head?.map (·.pos.line)).getD 0) = true then some id else none
              | _ => none) (fun e y q => by
                cases e <;> first | (cases q; done) | skip
                rename_i id pos
                have hk : (X.env.kindOf id == some NameKind.local) = true := by
                  dsimp only at q
                  split at q
                  · rename_i hh
                    exact (and2 hh).1
                  · cases q
                have hl : X.env.scope.names.lookup id = some .local := eq_of_beq hk
                rw [C.sc] at hl
                show (match g.sc.names.lookup id with | some .local => true | _ => false) = true
                rw [hl]) ts (by simpa using z)
            apply n2
            refine Bool.or_eq_true_iff.mpr (.inl ?_)
            exact bne_iff_ne.mpr (Nat.ne_of_lt this)
          · rw [z]
            rfl
theorem matchE_lc {g : Gam} {e : E} {elt : Expr} {gs : List Comprehension} {scope : Scope} {pos : Pos} (h : matchE g e (.ListComp elt gs scope pos) = true) : e = .wall ∨ ∃ own tg it ifs el s, e = .lc own tg it ifs el s := by
  cases e <;> first | (exact .inl rfl) | (exact .inr ⟨_, _, _, _, _, _, rfl⟩) | cases h | skip
  all_goals first
    | (rename_i p; cases p <;> cases h; done)
    | (rename_i o as
       cases as <;> first
         | (cases h; done)
         | (rename_i e es
            cases es <;> first
              | (cases h; done)
              | (cases o <;> first | (cases h; done) | (rename_i b1 b2; cases b1 <;> cases b2 <;> cases h))
              | (rename_i e2 es2
                 cases es2 <;> first
                   | (cases h; done)
                   | (cases o <;> first | (cases h; done) | (rename_i b1 b2; cases b1 <;> cases b2 <;> cases h)))))
/-- the parts of a comprehension -/
theorem matchE_lcp {g : Gam} {own : List Nat} {tg : Tg} {it : It} {ifs : Es} {elt : E} {s : Sh} {e : Expr} {gs : List Comprehension} {scope : Scope} {pos : Pos} (h : matchE g (.lc own tg it ifs elt s) (.ListComp e gs scope pos) = true) :
    ∃ t i fs, gs = [⟨t, i, fs, 0⟩] ∧ blkC g.N g.sc scope (ownOf g own) = true ∧ own.all (fun i => !g.io.contains i) = true ∧ tg.slots.all (fun i => own.contains i) = true ∧ itTg it t = true ∧ matchTg (g.blk scope) tg t = true ∧ matchI g it i = true ∧ matchEs (g.blk scope) ifs fs = true ∧ matchE (g.blk scope) elt e = true := by
  unfold matchE at h
  split at h <;> first | (cases h; done) | contradiction | skip
  rename_i own' tg' it' ifs' elt' s' e' t i fs scope' pos' e1 e2
  cases e1
  cases e2
  obtain ⟨h, h8⟩ := and2 h
  obtain ⟨h, h7⟩ := and2 h
  obtain ⟨h, h6⟩ := and2 h
  obtain ⟨h, h5⟩ := and2 h
  obtain ⟨h, h4⟩ := and2 h
  obtain ⟨h1, h2, h3⟩ := and3 h
  exact ⟨_, _, _, rfl, h1, h2, h3, h4, h5, h6, h7, h8⟩
variable {X : Cx} {g : Gam} {W : WX}
theorem asg_ok (C : Ctx X g w sg W) (K : CallsOk X g w sg cl) {tg : Tg} {e : E} {t x : Expr} {pos : Pos} (h1 : asgOk g t x = true) (h2 : matchTg g tg t = true) (h3 : matchE g e x = true) (wf : wfE sg e = true) : PS X (.Assign [t] x pos) (tS w sg cl W (.asg tg e)) := by
  have he := e_ok e X g W x C K h3 wf
  by_cases hn : isName t = true
  · cases t <;> first | (cases hn; done) | skip
    rename_i y py
    by_cases hc : noComp x = true
    · refine s_asg C (swaps_no hc _ _ _) ?_ h2 he.pe
      exact stores_no rfl _
    · cases x <;> first | (exact absurd rfl hc) | (exact absurd h1 hc) | skip
      rename_i elt gs scope pos'
      rcases matchE_lc h3 with rfl | ⟨own, tg', it, ifs, el, s, rfl⟩
      · exact ps_no fun env => rfl
      · obtain ⟨t', i, fs, rfl, b1, b2, b3, b4, b5, b6, b7, b8⟩ := matchE_lcp h3
        obtain ⟨wf', w4⟩ := and2 (show (wfI sg it && wfEs sg false ifs && wfE sg el && it.roots.all (fun i => !own.contains i && !(effEs sg ifs ++ effE sg el).contains i)) = true from wf)
        obtain ⟨w1, w2, w3⟩ := and3 wf'
        have kd := blk_kind b1
        by_cases ly : g.sc.names.lookup y = some .local
        rotate_left
        · refine s_asg C ?_ (stores_no rfl _) h2 he.pe
          have hk : (X.env.kindOf y == some NameKind.local) = false := by
            refine beq_eq_false_iff_ne.mpr fun e => ly ?_
            rw [← C.sc]
            exact e
          unfold swapsWith
          simp only [hk]
          simp
        have h1' : (match g.sc.names.lookup y with | some .local => (py.line == pos'.line) && !(scope.names.any fun nk => nk.1 == y && (nk.2 == .local || nk.2 == .cell)) | some .cell => true | _ => false) = true := h1
        rw [ly] at h1'
        obtain ⟨a2, a3⟩ := and2 h1'
        rcases foldS (sg := sg) (cl := cl) b6 X.env with hfold | hno
        · cases tg with
          | tup ts => cases h2
          | nm k =>
            exact s_asgLc C ⟨b1, b2, b3, b5, w4⟩ hfold (i_ok it X g W i t' C K b6 w1 b4) h2 ly a2 (not_eq a3) (fun s H c clo fp => ifs_ok ifs _ (g.blk scope) W0 fs (C.blk kd s H c clo fp) (K.blk s H c clo fp) b7 w2) fun s H c clo fp =>
              (e_ok el _ (g.blk scope) W0 elt (C.blk kd s H c clo fp) (K.blk s H c clo fp) b8 w3).pe
        · refine ps_no fun env => ?_
          show M.bind (M.bind (its sg cl it) _) _ env = none
          unfold M.bind
          rw [hno]
  · have hn' : isName t = false := by simpa using hn
    refine s_asg C (swaps_at hn' _ _) (noSwap_ok C ?_) h2 he.pe
    cases t <;> first | exact h1 | cases hn'
mutual
theorem s_ok (C : Ctx X g w sg W) (K : CallsOk X g w sg cl) (hp : PassesOwn (model X.prog X.w) X.A X.env X.xe) : ∀ (s : S) (t : Stmt), matchS g s t = true → wfS sg s = true → PS X t (tS w sg cl W s) := by
  intro s t h wf
  unfold matchS at h
  split at h
  · obtain ⟨h1, h2, h3⟩ := and3 h
    exact asg_ok C K h1 h2 h3 wf
  · rename_i i j a b y py z pz _ _ u v _ _ _
    obtain ⟨h, q10⟩ := and2 h
    obtain ⟨h, q9⟩ := and2 h
    obtain ⟨h, q8⟩ := and2 h
    obtain ⟨h, q7⟩ := and2 h
    obtain ⟨h, q6⟩ := and2 h
    obtain ⟨h, q5⟩ := and2 h
    obtain ⟨h, q4⟩ := and2 h
    obtain ⟨h, q3⟩ := and2 h
    obtain ⟨h, q2⟩ := and2 h
    obtain ⟨q0, q1⟩ := and2 h
    obtain ⟨w1, _, w2⟩ := wfEs_out wf
    have R : EsOk X w sg cl W (.cons a (.cons b .nil)) [u, v] := EsOk.cons q5 (e_ok a X g W u C K q9 w1) (EsOk.cons q6 (e_ok b X g W v C K q10 (wfEs_out w2).1) EsOk.nil)
    exact s_par2 C (of_decide_eq_true q0) (of_decide_eq_true q1) q2 q3 q4 q5 q6 (not_eq q7) (not_eq q8) (R.pg keepK kpK)
  · rename_i p k e l j _ x _
    obtain ⟨h, h4⟩ := and2 h
    obtain ⟨h1, h2, h3⟩ := and3 h
    obtain ⟨w1, w2, w3⟩ := and3 wf
    exact s_seti C h1 h2 w3 (e_ok k X g W j C K h3 w2).pe (e_ok e X g W x C K h4 w1).pe
  · rename_i p f e l a _ x _
    obtain ⟨h1, h2, h3⟩ := and3 h
    exact s_seta C (of_decide_eq_true h1) h2 (e_ok e X g W x C K h3 wf).pe
  · rename_i i o e y _ p x _
    obtain ⟨h1, h2, h3⟩ := and3 h
    exact s_augv C (of_decide_eq_true h1) h2 (e_ok e X g W x C K h3 wf).pe
  · rename_i p k o e l j _ q x _
    obtain ⟨h, h5⟩ := and2 h
    obtain ⟨h, h4⟩ := and2 h
    obtain ⟨h1, h2, h3⟩ := and3 h
    obtain ⟨w1, w2, w3⟩ := and3 wf
    exact s_augi C (of_decide_eq_true h1) h2 h3 w3 (e_ok k X g W j C K h4 w1).pe (e_ok e X g W x C K h5 w2).pe
  · rename_i c a b x y z _
    obtain ⟨h1, h2, h3⟩ := and3 h
    obtain ⟨w1, wf⟩ := and2 (show (wfE sg c && (wfSs sg a && wfSs sg b)) = true from wf)
    obtain ⟨w2, w3⟩ := and2 wf
    exact s_ife (e_ok c X g W x C K h1 w1).pt (ss_ok C K hp a y h2 w2) (ss_ok C K hp b z h3 w3)
  · rename_i tg it body t i b _
    obtain ⟨h, h4⟩ := and2 h
    obtain ⟨h1, h2, h3⟩ := and3 h
    obtain ⟨w1, w2, w3⟩ := and3 wf
    rcases foldS (sg := sg) (cl := cl) h3 X.env with hfold | hno
    · exact s_for hp C.calm hfold w3 (i_ok it X g W i t C K h3 w1 h1) (pg_T C h2) (ss_ok C K hp body b h4 w2)
    · refine ps_no fun env => ?_
      show M.bind (its sg cl it) _ env = none
      unfold M.bind
      rw [hno]
  · rename_i c body t b _
    obtain ⟨h1, h2⟩ := and2 h
    obtain ⟨w1, w2⟩ := and2 (show (wfE sg c && wfSs sg body) = true from wf)
    exact s_whl hp (e_ok c X g W t C K h1 w1).pt (ss_ok C K hp body b h2 w2)
  · exact s_ret (e_ok _ X g W _ C K h wf).pe
  · exact s_ret0
  · obtain ⟨h1, h2⟩ := and2 h
    exact s_exp h1 (e_ok _ X g W _ C K h2 wf).pe
  · exact s_pass
  · exact s_brk
  · exact s_cnt
  · exact ps_no fun env => rfl
  · cases h
termination_by s => sizeOf s
theorem ss_ok (C : Ctx X g w sg W) (K : CallsOk X g w sg cl) (hp : PassesOwn (model X.prog X.w) X.A X.env X.xe) : ∀ (s : Ss) (t : List Stmt), matchSs g s t = true → wfSs sg s = true → PSs X t (tSs w sg cl W s)
  | .nil, [], h, wf => ss_nil
  | .nil, _ :: _, h, wf => by cases h
  | .cons _ _, [], h, wf => by cases h
  | .cons s ss, t :: ts, h, wf => by
    obtain ⟨h1, h2⟩ := and2 (show (matchS g s t && matchSs g ss ts) = true from h)
    obtain ⟨w1, w2⟩ := and2 (show (wfS sg s && wfSs sg ss) = true from wf)
    exact ss_cons (s_ok C K hp s t h1 w1) (ss_ok C K hp ss ts h2 w2)
termination_by s => sizeOf s
end
end
end DI
set_option  maxHeartbeats  4000000
/-! DI9l: defs keep what the interpreter says of them. -/
namespace DI
open PySem L2 PySem.Spec PyProof.Rows
variable {F F' F0 F1 F2 B B' H H' H0 H1 H2 : Hp} {σ σ' : L2.St} {env env' : DI.Env} {fps fps' fps0 fps1 fps2 : Nat → List Addr}
section
variable {w : Wd}
theorem outs_get : ∀ (ms : List Md) (i k : Nat), (outsOf env i ms)[k]? = (ms[k]?).map fun m => match m with | .io => (env[i + k]?).getD none | _ => none
  | [], i, k => by simp [outsOf]
  | m :: ms, i, 0 => by
    unfold outsOf
    cases m <;> simp
  | m :: ms, i, k + 1 => by
    unfold outsOf
    have := outs_get ms (i + 1) k
    rw [List.getElem?_cons_succ, List.getElem?_cons_succ, this, Nat.add_assoc, Nat.add_comm 1 k]
theorem outs_len : ∀ (ms : List Md) (i : Nat), (outsOf env i ms).length = ms.length
  | [], _ => rfl
  | m :: ms, i => by
    unfold outsOf
    rw [List.length_cons, List.length_cons, outs_len ms]
/-- the slots that are handed back -/
def ioOf (ms : List Md) (vs : List V) : List (Nat × V) := (List.range ms.length).filterMap fun i => match ms[i]?, vs[i]? with
  | some Md.io, some v => some (i, v)
  | _, _ => none
theorem ioOf_mem {ms : List Md} {vs : List V} {i : Nat} {v : V} : (i, v) ∈ ioOf ms vs ↔ ms[i]? = some .io ∧ vs[i]? = some v := by
  unfold ioOf
  rw [List.mem_filterMap]
  constructor
  · rintro ⟨j, _, h⟩
    split at h
    · rename_i u e1 e2
      cases h
      exact ⟨e1, e2⟩
    · cases h
  · rintro ⟨h1, h2⟩
    refine ⟨i, List.mem_range.mpr (List.getElem?_eq_some_iff.mp h1).1, ?_⟩
    rw [h1, h2]
def fpI (ms : List Md) (fps : Nat → List Addr) (k : Nat) : List Addr := match ms[k]? with
  | some .io => fps k
  | _ => []
theorem fpI_mem {ms : List Md} {k : Nat} {a : Addr} (h : a ∈ fpI ms fps k) : ms[k]? = some .io ∧ a ∈ fps k := by
  unfold fpI at h
  split at h
  · rename_i e
    exact ⟨e, h⟩
  · cases h
/-- at the start -/
theorem Sta.start {N : List Str} {ms : List Md} {vs : List V} {args : List SD} (S : Sta (w.on []) F B H (vs.map some) (args.map some) fps) (hv : vs.length = ms.length) : Sta (w.on (ioOf ms vs)) F B H (L2.start N vs) (args.map some ++ List.replicate (N.length - args.length) none) fps := by
  have hl : args.length = vs.length := by
    have := S.ln
    rw [List.length_map, List.length_map] at this
    exact this
  refine ⟨S.fh, S.bh, ?_, fun i s d e => ?_, S.nf, S.hd, S.nd, S.sp, fun i v hv' => ?_⟩
  · unfold L2.start
    rw [List.length_append, List.length_append, List.length_map, List.length_map, List.length_replicate, List.length_replicate, hl]
  · have hi : i < args.length := by
      rcases Nat.lt_or_ge i args.length with z | z
      · exact z
      · rw [List.getElem?_append_right (by rw [List.length_map]; exact z), List.getElem?_replicate] at e
        split at e <;> cases e
    rw [List.getElem?_append_left (by rw [List.length_map]; exact hi)] at e
    obtain ⟨v, v1, v2⟩ := S.sl i s d e
    refine ⟨v, ?_, RepS.monoL (w := w.on []) (ioOf ms vs) (ex_refl _) (ex_refl _) (fun _ _ z => z) d s v _ (fun _ _ _ z => z) v2⟩
    unfold L2.start
    rw [List.getElem?_append_left (by rw [List.length_map, ← hl]; exact hi)]
    exact v1
  · obtain ⟨_, h2⟩ := ioOf_mem.mp hv'
    have hi := (List.getElem?_eq_some_iff.mp h2).1
    unfold L2.start
    rw [List.getElem?_append_left (by rw [List.length_map]; exact hi), List.getElem?_map, h2]
    rfl
/-- at the end -/
theorem Sta.endd {ef : List Nat} {ms : List Md} {vs : List V} (hv : vs.length = ms.length) (n0 : ∀ i, ms.length ≤ i → fps i = []) (S : Sta (w.on (ioOf ms vs)) F' B H' σ' env' fps') (T : Stp ef F H fps F' H' fps') :
    Sta (w.on []) F' B H' (vs.map some) (outsOf env' 0 ms) (fpI ms fps') ∧ Stp (List.range ms.length) F H fps F' H' (fpI ms fps') := by
  have inr : ∀ j a, a ∈ fps j → j ∈ List.range ms.length := fun j a h => List.mem_range.mpr (by
    rcases Nat.lt_or_ge j ms.length with z | z
    · exact z
    · rw [n0 j z] at h
      cases h)
  refine ⟨⟨S.fh, S.bh, by rw [outs_len, List.length_map, hv], fun k s d e => ?_, fun k a ha => S.nf k a (fpI_mem ha).2, fun k a ha => S.hd k a (fpI_mem ha).2, fun k => ?_, fun k l a h1 h2 => S.sp k l a (fpI_mem h1).2 (fpI_mem h2).2, fun i v hv' => by cases hv'⟩, ?_⟩
  · rw [outs_get] at e
    obtain ⟨m, hm, e⟩ := Option.map_eq_some_iff.mp e
    cases m <;> first | (cases e; done) | skip
    have e' : (env'[0 + k]?).getD none = some (s, d) := e
    rw [Nat.zero_add] at e'
    have e2 : env'[k]? = some (some (s, d)) := by
      cases q : env'[k]? with
      | none => rw [q] at e'; cases e'
      | some y =>
        rw [q] at e'
        have : y = some (s, d) := e'
        rw [this]
    obtain ⟨v, v1, v2⟩ := S.sl k s d e2
    have hk : k < vs.length := by
      rw [hv]
      exact (List.getElem?_eq_some_iff.mp hm).1
    have hvk : vs[k]? = some vs[k] := List.getElem?_eq_getElem hk
    have := S.io k vs[k] (ioOf_mem.mpr ⟨hm, hvk⟩)
    rw [v1] at this
    have ev' : v = vs[k] := by
      injection this with h1
      injection h1
    refine ⟨v, by rw [List.getElem?_map, hvk, ev']; rfl, ?_⟩
    have ef' : fpI ms fps' k = fps' k := by unfold fpI; rw [hm]
    rw [ef']
    exact RepS.monoL (w := w.on (ioOf ms vs)) [] (ex_refl _) (ex_refl _) (fun _ _ z => z) d s v _ (fun _ _ _ z => z) v2
  · unfold fpI
    split
    · exact S.nd k
    · exact List.nodup_nil
  · refine ⟨T.ff, T.fh, fun a o e => ?_, fun a o e n => T.fr a o e fun i _ hm => n i (inr i a hm) hm, T.al, fun i hi => ?_, fun i hi a ha => ?_⟩
    · rcases T.fn a o e with z | z | ⟨i, _, z⟩ | z
      · exact .inl z
      · exact .inr (.inl z)
      · exact .inr (.inr (.inl ⟨i, inr i a z, z⟩))
      · exact .inr (.inr (.inr z))
    · have hi' : ms.length ≤ i := by simpa using hi
      rw [n0 i hi']
      unfold fpI
      rw [List.getElem?_eq_none hi']
    · obtain ⟨_, ha⟩ := fpI_mem ha
      by_cases hie : i ∈ ef
      · rcases T.nw i hie a ha with z | ⟨j, _, z⟩
        · exact .inl z
        · exact .inr ⟨j, inr j a z, z⟩
      · rw [T.sm i hie] at ha
        exact .inr ⟨i, hi, ha⟩
end
/-- what the defs promise at a depth -/
structure Proms (P : Prog) (Pg : Program) (wo : World) (K : PySem.W.Frag) (mg : Str → Option Value) (base : Heap) (w0 : Wd) (g : Gam) (n : Nat) : Prop where
  fn : ∀ f, g.fk f = true → ∃ a fd ps gdf, mg (g.defs f) = some (.ref a) ∧ PySem.W.keepIn K (.ref a) = true ∧ Binds K fd ps [] ∧ (gdf = true → g.gd = true) ∧
    FnG gdf Pg wo K mg base (L2.CX Pg wo) (2 * n) a fd ps (spD (w0.on []) (P.sg.modes f).length (callD P n f))
  mt : ∀ c f, g.mm c f = true → ∃ a fd ps gdf, Cls K (w0.ca c) ∧ Meth K (w0.ca c) (g.defs f) a ∧ (∀ z, P.sg.gd c z = true → w0.fn z ≠ g.defs f) ∧ Binds K fd ps [] ∧ (gdf = true → g.gd = true) ∧
    FnG gdf Pg wo K mg base (L2.CX Pg wo) (2 * n) a fd ps (spD (w0.on []) (P.sg.modes f).length (callD P n f))
  nk : ∀ c, g.nk c = true → ∃ a fd ps ms, Mk K (w0.ca c) a ∧ mg (g.cls c) = some (.ref (w0.ca c)) ∧ Binds K fd ps [] ∧ P.sg.modes (P.sg.init c) = .io :: ms ∧
    FnG false Pg wo K mg base (L2.CX Pg wo) (2 * n) a fd ps (spD (w0.on []) (P.sg.modes (P.sg.init c)).length (callD P n (P.sg.init c)))
/-- what a def's text must be -/
structure DefT (P : Prog) (g : Gam) (f : Nat) (ps : List Str) (body : List Stmt) (scope : Scope) : Prop where
  S : FnScope g.N ps scope
  sc : g.sc = scope
  st : g.st = fun _ => true
  df : ∃ core, P.defs f = some (g.N.length, core) ∧ matchSs g core body = true ∧ wfSs P.sg core = true
  pl : ps.length = (P.sg.modes f).length
  io : ∀ i, (P.sg.modes f)[i]? = some .io → i ∈ g.io
/-- what the module is like -/
structure ModOk (K : PySem.W.Frag) (mg : Str → Option Value) (w0 : Wd) (sg : Sig) (g : Gam) : Prop where
  wK : w0.K = K
  bl : ∀ x ∈ bnames, mg x = none
  con : ∀ x d, g.con x = some d → ∃ v u, mg x = some u ∧ RelV v u ∧ d.scal = true ∧ ∀ F, Rep w0 F d v
  wok : WOk w0 sg.gd
  gfn : ∀ f, g.fn f = w0.fn f
theorem fn_core {P : Prog} {Pg : Program} {wo : World} {K : PySem.W.Frag} {mg : Str → Option Value} {base : Heap} {w0 : Wd} {g : Gam} {n f : Nat} {a : Addr} {fd : FuncData} {x qual : Str} {params : Arguments} {body : List Stmt} {scope : Scope} {ps : List Str}
    (Fd : FunD K x qual params body scope [] [] a fd) (T : DefT P g f ps body scope) (M : ModOk K mg w0 P.sg g) (R : Proms P Pg wo K mg base w0 g n) : FnG g.gd Pg wo K mg base (L2.CX Pg wo) (2 * (n + 1)) a fd ps (spD (w0.on []) (P.sg.modes f).length (callD P (n + 1) f)) := by
  obtain ⟨oc, od, dV, kV, doc, pm, an, cdv, ct, osl, rfl, lk, hcd, _, _⟩ := Fd.ex
  have e2 : 2 * (n + 1) = (2 * n + 1) + 1 := by omega
  rw [e2]
  refine fn_ofG lk hcd T.S (fun vs H Q E h => by rw [h.1, T.pl]) fun A outer s H vs Q E hgd room sp => ?_
  obtain ⟨core, hdf, hm, hw⟩ := T.df
  obtain ⟨hv, args, F, B, fps, r, S, n0, hc, q⟩ := sp
  generalize hX : cxOf (L2.CX Pg wo) Pg wo K mg base g.N qual scope a cdv A outer s H E = X
  have xK : X.K = K := by rw [← hX]; rfl
  have xmg : X.mg = mg := by rw [← hX]; rfl
  have xA : X.A = A.deeper (envOfC qual scope s.heap.objs.size a cdv) := by rw [← hX]; rfl
  have C : Ctx X g (w0.on (ioOf (P.sg.modes f) vs)) P.sg (fun cls d _ H => E cls d H) := by
    refine ⟨by rw [← hX]; rfl, T.S.nd, by rw [← hX, T.sc]; rfl, by rw [xK]; exact M.wK.symm, by rw [← hX]; rfl, ?_, fun x _ => .inl (by rw [← hX]; rfl), fun x hx => by rw [xmg]; exact M.bl x hx, ?_, fun h => by rw [xA]; exact hgd h, fun x d h => ?_, ⟨M.wok.inj, M.wok.cls⟩, M.gfn, fun i v hi => T.io i (ioOf_mem.mp hi).1, by rw [T.sc]; exact T.S.kind⟩
    · rw [← hX]
      exact L2.takes_of rfl rfl rfl rfl
    · have := room.un
      rw [xA]
      omega
    · rw [xmg]
      obtain ⟨v, u, h1, h2, h3, h4⟩ := M.con x d h
      exact ⟨v, u, h1, h2, h3, fun F => Rep.monoL (w := w0) _ (ex_refl _) d v (h4 F)⟩
  have hp : PassesOwn (model X.prog X.w) X.A X.env X.xe := by
    rw [← hX]
    exact L2.passes_of rfl
  have Kc : CallsOk X g (w0.on (ioOf (P.sg.modes f) vs)) P.sg (callD P n) := by
    have rm : Room (2 * n) X.A := by
      rw [xA]
      exact room.mono (by omega)
    have rm1 : Room (2 * n + 1) X.A := by
      rw [xA]
      exact room
    have gg : ∀ {b : Bool}, (b = true → g.gd = true) → b = true → X.A.guards = some [] := fun {b} h hb => by
      rw [xA]
      exact hgd (h hb)
    subst hX
    refine ⟨fun f' hf => ?_, fun c f' hf => ?_, fun c hf => ?_⟩
    · obtain ⟨a', fd', ps', gdf, k1, k2, k3, k4, k5⟩ := R.fn f' hf
      exact ⟨a', fd', ps', 2 * n, gdf, k1, k2, k3, rm, gg k4, k5⟩
    · obtain ⟨a', fd', ps', gdf, k1, k2, k3, k4, k5, k6⟩ := R.mt c f' hf
      exact ⟨a', fd', ps', 2 * n, gdf, k1, k2, k3, k4, rm, gg k5, k6⟩
    · obtain ⟨a', fd', ps', ms, k1, k2, k3, k4, k5⟩ := R.nk c hf
      exact ⟨a', fd', ps', 2 * n, ms, k1, k2, k3, rm1, k4, k5⟩
  refine ⟨_, ss_ok C Kc hp core body hm hw, ?_⟩
  have hl : args.length = vs.length := by
    have := S.ln
    rw [List.length_map, List.length_map] at this
    exact this
  have hc' : (match sts P.sg (callD P n) core (args.map some ++ List.replicate (g.N.length - args.length) none) with
      | some (.ok (.rt r) env) => some (DI.CR.ok r (outsOf env 0 (P.sg.modes f)))
      | some (.ok .nx env) => some (DI.CR.ok (.frz, .non) (outsOf env 0 (P.sg.modes f)))
      | some (.ex c fs env) => some (DI.CR.ex c fs (outsOf env 0 (P.sg.modes f)))
      | _ => none) = some r := by
    have := hc
    unfold callD at this
    rw [hdf] at this
    exact this
  cases hs : sts P.sg (callD P n) core (args.map some ++ List.replicate (g.N.length - args.length) none) with
  | none => rw [hs] at hc'; cases hc'
  | some o =>
    rw [hs] at hc'
    refine ⟨_, F, B, fps, o, S.start hv, hs, ?_⟩
    have inr : ∀ {ef : List Nat} {fp : List Addr}, Fr ef H fps fp → Fr (List.range (P.sg.modes f).length) H fps fp := fun {ef fp} h a ha => (h a ha).imp id fun ⟨j, _, z⟩ => ⟨j, List.mem_range.mpr (by
      rcases Nat.lt_or_ge j (P.sg.modes f).length with y | y
      · exact y
      · rw [n0 j y] at z
        cases z), z⟩
    cases o with
    | ok fl env' =>
      cases fl with
      | bk => cases hc'
      | ct => cases hc'
      | nx =>
        cases hc'
        intro σ' H' F' fps' S' T'
        obtain ⟨S2, T2⟩ := Sta.endd hv n0 S' T'
        exact q .non H' F' _ S2 T2 ⟨[], RepS_frz.mpr ⟨rfl, rfl⟩, Kp.nil, Fr.nil⟩
      | rt y =>
        cases hc'
        intro v σ' H' F' fps' S' T' V'
        obtain ⟨S2, T2⟩ := Sta.endd hv n0 S' T'
        obtain ⟨fp, r1, k1, f1⟩ := V'
        exact q v H' F' _ S2 T2 ⟨fp, RepS.monoL (w := w0.on (ioOf (P.sg.modes f) vs)) [] (ex_refl _) (ex_refl _) (fun _ _ z => z) _ _ _ _ (fun _ _ _ z => z) r1, ⟨k1.nd, k1.nf, k1.hd, fun a ha i hi => k1.ds a ha i (fpI_mem hi).2⟩, inr f1⟩
    | ex c fs env' =>
      cases hc'
      intro cls dx σ' H' F' fps' S' T' x'
      obtain ⟨S2, T2⟩ := Sta.endd hv n0 S' T'
      refine q cls dx H' F' _ S2 T2 ?_
      obtain ⟨x1, x2⟩ := x'
      refine ⟨x1, ?_⟩
      cases fs with
      | nil => exact x2
      | cons d fs =>
        cases fs with
        | nil =>
          obtain ⟨x, f', v, y1, y2, y3⟩ := x2
          exact ⟨x, f', v, y1, y2, Rep.monoL (w := w0.on (ioOf (P.sg.modes f) vs)) [] (ex_refl _) _ _ y3⟩
        | cons _ _ => exact x2
end DI
/-! DI9m: all defs at once; the law's call. -/
namespace DI
open PySem L2 PySem.Spec PyProof.Rows
theorem FnG.zero {gd : Bool} {P : Prog} {Pg : Program} {wo : World} {K : PySem.W.Frag} {mg : Str → Option Value} {base : Heap} {CX : CXT} {k : Nat} {a : Addr} {fd : FuncData} {ps : List Str} {w : Wd} {m f : Nat} : FnG gd Pg wo K mg base CX k a fd ps (spD w m (callD P 0 f)) := by
  have no : ∀ {vs H Q E}, ¬ spD w m (callD P 0 f) vs H Q E := fun ⟨_, args, F, B, fps, r, S, n0, hc, q⟩ => by cases hc
  exact ⟨fun vs H Q E h => (no h).elim, fun A outer s H args us vs Q E _ _ _ _ _ h => (no h).elim⟩
theorem all_fn {P : Prog} {Pg : Program} {wo : World} {K : PySem.W.Frag} {mg : Str → Option Value} {base : Heap} {w0 : Wd} (gam : Nat → Gam) (at_ : Nat → Addr) (fdf : Nat → FuncData) (psf : Nat → List Str) (m : Nat)
    (hF : ∀ f, f < m → ∃ x qual params body scope, FunD K x qual params body scope [] [] (at_ f) (fdf f) ∧ DefT P (gam f) f (psf f) body scope ∧ ModOk K mg w0 P.sg (gam f) ∧ Binds K (fdf f) (psf f) [])
    (hfk : ∀ f, f < m → ∀ f', (gam f).fk f' = true → f' < m ∧ mg ((gam f).defs f') = some (.ref (at_ f')) ∧ PySem.W.keepIn K (.ref (at_ f')) = true ∧ ((gam f').gd = true → (gam f).gd = true))
    (hmm : ∀ f, f < m → ∀ c f', (gam f).mm c f' = true → f' < m ∧ Cls K (w0.ca c) ∧ Meth K (w0.ca c) ((gam f).defs f') (at_ f') ∧ (∀ z, P.sg.gd c z = true → w0.fn z ≠ (gam f).defs f') ∧ ((gam f').gd = true → (gam f).gd = true))
    (hnk : ∀ f, f < m → ∀ c, (gam f).nk c = true → P.sg.init c < m ∧ Mk K (w0.ca c) (at_ (P.sg.init c)) ∧ mg ((gam f).cls c) = some (.ref (w0.ca c)) ∧ (∃ ms, P.sg.modes (P.sg.init c) = .io :: ms) ∧ (gam (P.sg.init c)).gd = false) :
    ∀ n f, f < m → FnG (gam f).gd Pg wo K mg base (L2.CX Pg wo) (2 * n) (at_ f) (fdf f) (psf f) (spD (w0.on []) (P.sg.modes f).length (callD P n f))
  | 0, f, _ => FnG.zero
  | n + 1, f, hf => by
    have ih := all_fn (base := base) (Pg := Pg) (wo := wo) gam at_ fdf psf m hF hfk hmm hnk n
    obtain ⟨x, qual, params, body, scope, h1, h2, h3, _⟩ := hF f hf
    refine fn_core h1 h2 h3 ⟨fun f' h => ?_, fun c f' h => ?_, fun c h => ?_⟩
    · obtain ⟨k1, k2, k3, k4⟩ := hfk f hf f' h
      obtain ⟨_, _, _, _, _, _, _, _, b⟩ := hF f' k1
      exact ⟨at_ f', fdf f', psf f', (gam f').gd, k2, k3, b, k4, ih f' k1⟩
    · obtain ⟨k1, k2, k3, k4, k5⟩ := hmm f hf c f' h
      obtain ⟨_, _, _, _, _, _, _, _, b⟩ := hF f' k1
      exact ⟨at_ f', fdf f', psf f', (gam f').gd, k2, k3, k4, b, k5, ih f' k1⟩
    · obtain ⟨k1, k2, k3, ⟨ms, k4⟩, k5⟩ := hnk f hf c h
      obtain ⟨_, _, _, _, _, _, _, _, b⟩ := hF _ k1
      have := ih _ k1
      rw [k5] at this
      exact ⟨at_ (P.sg.init c), fdf (P.sg.init c), psf (P.sg.init c), ms, k2, k3, b, k4, this⟩
/-! ### the law is called -/
section
variable {P : Program} {wo : World} {K : PySem.W.Frag} {mg mb : Str → Option Value} {CX : CXT} {k : Nat} {fa a : Addr} {fd : FuncData} {x : Str} {sp : Sp} {s1 : Shared} {its : List Value} {ns : List Int}
/-- from a heap in which the script alone may be tracked -/
theorem law_core (KX : K.In s1.heap) (hns : s1.heap.Ns mainGlobals mg) (hb : s1.heap.Ns builtinsNs mb) (hbb : ∀ y : Str, y ≠ "__name__" → mb y = bootBuiltins y) (hlim : s1.heap.NoLimit) (hg : s1.gens = #[])
    (hobj : s1.heap.get? a = some { cls := .type "list", data := .seq its.toArray }) (hr : Room k callerA) (Fl : ∀ base : Heap, K.In base → base.Ns mainGlobals mg → FnG true P wo K mg base CX k fa fd [x] sp) (hbind : ∀ (s : Shared) (u : Value), BindsTo s fd ⟨[u], []⟩ [(x, u)])
    (hCX : ∀ G e s', CX [] G s1 (fun _ _ _ => False) e s' → False) (G : L2.Hp) (only : Only G) (hsp : sp [.ref a] G (fun v _ => v = .bl true) fun _ _ _ => False) (hok : HOk P wo G s1.heap) (alone : ∀ b, G b ≠ none → b = a) (notK : G a ≠ none → K.lookup a = none) :
    codeAny (model P wo) callerA (.call (.ref fa) ⟨[.ref a], []⟩) (fun r s' => r = .ok (.ret (.bool true)) ∧ OldK s1.heap s'.heap ∧ s'.os = s1.os ∧ AllBare s'.gens) s1 := by
  have dicts : ∀ {b : Addr} {o : Obj} {es : Array DictEntry} {ep : Nat}, s1.heap.get? b = some o → o.data = .dict es ep → G b = none := by
    intro b o es ep e d
    by_cases z : G b = none
    · exact z
    · have eb := alone b z
      rw [eb, hobj] at e
      injection e with e
      rw [← e] at d
      cases d
  have names : ∀ {b : Addr} {m : Str → Option Value}, s1.heap.Ns b m → (hidT s1.heap G).Ns b m := by
    rintro b m ⟨o, es, ep, e, d, r⟩
    exact ⟨o, es, ep, hidT_get e (dicts e d), d, r⟩
  have inK : K.In (hidT s1.heap G) := by
    intro b o e
    refine hidT_get (KX b o e) ?_
    by_cases z : G b = none
    · exact z
    · have eb := alone b z
      rw [eb] at e z
      rw [notK z] at e
      cases e
  obtain ⟨mc, c1, c2⟩ := hlim
  have md : Mod K mg (hidT s1.heap G) := ⟨inK, names hns, ⟨mb, names hb, hbb⟩, ⟨mc, names c1, c2⟩⟩
  have nil : ∀ b : Addr, b ∉ ([] : List Addr) := fun b h => by cases h
  have e0 : Env0 P wo K mg (hidT s1.heap G) callerA [] s1 G := ⟨rfl, md, fun b o e => of_hidT e, Nat.le_of_eq (hidT_size _ _), trivial, fun b h => absurd h (nil b), hok, .of_eq hg⟩
  have run := (Fl _ inK (names hns)).run callerA [] s1 G ⟨[.ref a], []⟩ [.ref a] [.ref a] _ _ (fun _ => rfl) hr e0 (hbind s1 (.ref a)) (.cons rfl .nil) hsp
  refine codeAny_mono run ?_
  intro r s' h
  match r, h with
  | .error e, h => exact (hCX G e s' h).elim
  | .ok .next, h => exact False.elim h
  | .ok .brk, h => exact False.elim h
  | .ok .cont, h => exact False.elim h
  | .ok (.ret u), h =>
    obtain ⟨v, G', os, bare, un, hok', rv, q⟩ := h
    have ev : v = .bl true := q
    rw [ev] at rv
    have eu : u = Value.bool true := rv
    rw [eu]
    refine ⟨rfl, OldK.of_keep ?_, os, bare⟩
    intro b o e
    rcases only b with z | ⟨ob, zs, z⟩
    · exact un.keep b o e z (nil b) (by simp)
    · have e1 := (hok b _ z).1
      have e2 := (hok' b _ (un.frzs b ob _ z)).1
      rw [e] at e1
      injection e1 with e1
      rw [e1]
      exact e2
theorem law_callG (KX : K.In s1.heap) (hns : s1.heap.Ns mainGlobals mg) (hb : s1.heap.Ns builtinsNs mb) (hbb : ∀ y : Str, y ≠ "__name__" → mb y = bootBuiltins y) (hlim : s1.heap.NoLimit) (hg : s1.gens = #[])
    (hobj : s1.heap.get? a = some { cls := .type "list", data := .seq its.toArray }) (hi : IntsAre its ns) (hl : ns.length ≤ sizeLine) (hr : Room k callerA) (Fl : ∀ base : Heap, K.In base → base.Ns mainGlobals mg → FnG true P wo K mg base CX k fa fd [x] sp)
    (hbind : ∀ (s : Shared) (u : Value), BindsTo s fd ⟨[u], []⟩ [(x, u)]) (hCX : ∀ G e s', CX [] G s1 (fun _ _ _ => False) e s' → False) (hsp : ∀ G : L2.Hp, Only G → SqL K G a (ns.map V.int) → sp [.ref a] G (fun v _ => v = .bl true) fun _ _ _ => False) :
    codeAny (model P wo) callerA (.call (.ref fa) ⟨[.ref a], []⟩) (fun r s' => r = .ok (.ret (.bool true)) ∧ OldK s1.heap s'.heap ∧ s'.os = s1.os ∧ AllBare s'.gens) s1 := by
  have rel := vals_ints hi
  have lenI : its.length = ns.length := hi.length
  have szI : its.toArray.size ≤ sizeLine := by
    rw [List.size_toArray, lenI]
    exact hl
  cases look : K.lookup a with
  | some o =>
    have e := KX a o look
    rw [hobj] at e
    injection e with e
    subst e
    have O : Only (fun _ => none) := fun _ => .inl rfl
    have none' : ∀ b, (fun _ => none : L2.Hp) b ≠ none → b = a := fun b z => absurd rfl z
    refine law_core KX hns hb hbb hlim hg hobj hr Fl hbind hCX (fun _ => none) O (hsp _ O ?_) (fun b u z => ?_) none' fun z => absurd rfl z
    · refine .inr ⟨_, its.toArray, _, look, rfl, rfl, rfl, szI, ?_⟩
      simpa using rel
    · have z' : (none : Option HO) = some u := z
      cases z'
  | none =>
    generalize hG : (fun b => if b = a then some (HO.frz { cls := .type "list", data := .seq its.toArray } (.lst (ns.map V.int))) else none : L2.Hp) = G
    have ga : G a = some (.frz { cls := .type "list", data := .seq its.toArray } (.lst (ns.map V.int))) := by
      rw [← hG]
      exact if_pos rfl
    have gn : ∀ b, b ≠ a → G b = none := fun b n => by
      rw [← hG]
      exact if_neg n
    have O : Only G := fun b => by
      by_cases e : b = a
      · subst e
        exact .inr ⟨_, _, ga⟩
      · exact .inl (gn b e)
    refine law_core KX hns hb hbb hlim hg hobj hr Fl hbind hCX G O (hsp G O (.inl (.inr ⟨_, ga⟩))) (fun b u z => ?_) (fun b z => ?_) fun _ => look
    · by_cases e : b = a
      · subst e
        rw [ga] at z
        injection z with z
        subst z
        exact ⟨hobj, by rw [List.length_map]; exact hl, its, _, rel, hobj⟩
      · rw [gn b e] at z
        cases z
    · by_cases e : b = a
      · exact e
      · exact absurd (gn b e) z
end
/-- a law, from the promise of its def -/
theorem walk_ofG {l : PySem.W.OpenLaw} {n k : Nat} {q : Program} {loose : List Str} {XP : (Str → Option Value) → Heap → Prop} {YP : World → Heap → Prop} {d : DefRec} {x : Str} (hn : l.most = some n) (hn2 : n ≤ sizeLine) (hdf : d.params.defaults = []) (hr : Room k callerA)
    (Fl : ∀ (wo : World) (mg : Str → Option Value) (fa : Addr) (h : Heap), YP wo h → h.Ns mainGlobals mg → mg d.name = some (.ref fa) →
      ∃ (K : PySem.W.Frag) (fd : FuncData) (sp : Sp), K.In h ∧ (∀ (s : Shared) (u : Value), BindsTo s fd ⟨[u], []⟩ [(x, u)]) ∧ (∀ (G : L2.Hp) (a : Addr) (ns : List Int), ns.length ≤ n → SqL K G a (ns.map V.int) → sp [.ref a] G (fun v _ => v = .bl true) fun _ _ _ => False) ∧
        ∀ base : Heap, K.In base → base.Ns mainGlobals mg → FnG true l.prog wo K mg base (L2.CX l.prog wo) k fa fd [x] sp) : PySem.W.WalkO q loose XP YP l.row.toRowW d [] (fun f vs => PySem.call f vs) := by
  refine Att.attach_call hn hdf ?_
  intro wo s0 s1 mg mb fa o pm cd doc a its ns G Y ho hd hcd hmg hobj hints hlen hg
  obtain ⟨K, fd, sp, KX, hb, hsp, hF⟩ := Fl wo mg fa _ Y G.T.g hmg
  refine law_callG KX G.T.g G.T.b G.T.builtins G.T.nolimit hg hobj hints (Nat.le_trans hlen hn2) hr hF hb ?_ fun H _ hS => hsp H a ns hlen hS
  rintro H e s' ⟨_, _, _, _, _, _, _, _, _, _, _, _, z⟩
  exact z
/-- what is asked of the interpreter -/
theorem law_sp {P : Prog} {w0 : Wd} {n f : Nat} {G : L2.Hp} {a : Addr} {ns : List Int} {E : XK} {outs : List (Option SD)} {s : Sh} (hm : (P.sg.modes f).length = 1) (hS : SqL w0.K G a (ns.map V.int)) (h : callD P n f [(.frz, .scr ns)] = some (.ok (s, .bl true) outs)) :
    spD (w0.on []) (P.sg.modes f).length (callD P n f) [.ref a] G (fun v _ => v = .bl true) E := by
  rw [hm]
  refine ⟨rfl, [(.frz, .scr ns)], G, G, fun _ => [], _, ⟨ex_refl _, ex_refl _, rfl, fun i t d e => ?_, fun i b h => (by cases h), fun i b h => (by cases h), fun i => List.nodup_nil, fun i j b h => (by cases h), fun i v h => (by cases h)⟩, fun i _ => rfl, h, ?_⟩
  · cases i with
    | succ i => cases e
    | zero =>
      cases e
      exact ⟨_, rfl, RepS_frz.mpr ⟨⟨a, rfl, hS⟩, rfl⟩⟩
  · intro v H' F' fps' S' T' V'
    exact v_bl (V'.elim fun fp z => ⟨fp, z.1⟩)
end DI
/-! DI9n: a law's defs as one datum; what is to be looked at. -/
namespace DI
open PySem L2 PySem.Spec PyProof.Rows
/-- names of fields: those of the list, then ever longer ones -/
def fnL (l : List Str) (f : Nat) : Str := match l[f]? with
  | some x => x
  | none => ⟨Array.replicate (f + 100) 0⟩
theorem fnL_inj {l : List Str} (h : l.Nodup) (hs : ∀ x ∈ l, x.cps.size < 100) : ∀ f g, fnL l f = fnL l g → f = g := by
  intro f g e
  unfold fnL at e
  cases hf : l[f]? with
  | some x =>
    cases hg : l[g]? with
    | some y =>
      rw [hf, hg] at e
      have e' : x = y := e
      subst e'
      exact L2.nodup_ix h hf hg
    | none =>
      rw [hf, hg] at e
      have e' : x = ⟨Array.replicate (g + 100) 0⟩ := e
      have := hs x (List.mem_of_getElem? hf)
      rw [e'] at this
      simp at this
      omega
  | none =>
    cases hg : l[g]? with
    | some y =>
      rw [hf, hg] at e
      have e' : ⟨Array.replicate (f + 100) 0⟩ = y := e
      have := hs y (List.mem_of_getElem? hg)
      rw [← e'] at this
      simp at this
      omega
    | none =>
      rw [hf, hg] at e
      have e' : (⟨Array.replicate (f + 100) 0⟩ : Str) = ⟨Array.replicate (g + 100) 0⟩ := e
      have : (Array.replicate (f + 100) 0 : Array Nat).size = (Array.replicate (g + 100) 0).size := by
        injection e' with e''
        rw [e'']
      simp at this
      exact this
structure LawD where
  fn : List He.DefD
  cl : List Str
  fields : List Str
  con : List (Str × D)
  P : Prog
  names : Nat → List Str
  meth : Nat → Option Nat
namespace LawD
variable (L : LawD)
def nm (i : Nat) : Str := match L.fn[i]? with
  | some d => d.name
  | none => Str.empty
def cn (c : Nat) : Str := (L.cl[c]?).getD Str.empty
def ioIx (ms : List Md) : List Nat := (List.range ms.length).filter fun i => match ms[i]? with
  | some .io => true
  | _ => false
def sco (f : Nat) : Scope := match L.fn[f]? with
  | some d => d.scope
  | none => { kind := .function, names := [], isGenerator := false, isCoroutine := false }
def isFn (f : Nat) : Bool := decide (f < L.fn.length) && (L.meth f).isNone
def isMt (c f : Nat) : Bool := decide (f < L.fn.length) && decide (L.meth f = some c)
def mayShow (f f' : Nat) : Bool := L.P.sg.grd f || !L.P.sg.grd f'
def gam (f : Nat) : Gam where
  N := L.names f
  sc := L.sco f
  defs := L.nm
  cls := L.cn
  fn := fnL L.fields
  con := fun x => L.con.lookup x
  st := fun _ => true
  gd := L.P.sg.grd f
  io := ioIx (L.P.sg.modes f)
  fk := fun f' => L.isFn f' && L.mayShow f f'
  mm := fun c f' => L.isMt c f' && L.mayShow f f'
  nk := fun c => decide (c < L.cl.length) && (L.isMt c (L.P.sg.init c) && ((match L.P.sg.modes (L.P.sg.init c) with | .io :: _ => true | _ => false) && (!L.P.sg.grd (L.P.sg.init c) && decide (L.nm (L.P.sg.init c) = "__init__"))))
def ps (f : Nat) : List Str := (L.names f).take (L.P.sg.modes f).length
/-- what is asked of the module -/
def fa : List He.Fa := bnames.map He.Fa.free ++ ((L.fn.filterMap fun d => match d.at_.2 with
  | none => some (He.Fa.glo d.at_.1)
  | some m => some (He.Fa.meth d.at_.1 m)) ++ (L.cl.flatMap (fun x => [He.Fa.glo x, He.Fa.cls x, He.Fa.mkr x] ++ L.fields.map fun f => He.Fa.noat x f) ++ L.con.filterMap fun p => match p.2 with
  | .int i => some (He.Fa.int p.1 i)
  | .str z => some (He.Fa.str p.1 z)
  | _ => none))
def fnScopeB (N ps : List Str) (sc : Scope) : Bool := (match sc.kind with | .function => true | _ => false) && (!sc.isCoroutine && (!sc.isGenerator && (decide N.Nodup && (decide (N.take ps.length = ps) &&
  ((ps.all fun x => match sc.names.lookup x with | some .local => true | some .cell => true | _ => false) && sc.names.all fun y => match y.2 with | .free => false | _ => true)))))
theorem fnScope_by {N ps : List Str} {sc : Scope} (h : fnScopeB N ps sc = true) : FnScope N ps sc := by
  obtain ⟨h1, h⟩ := and2 h
  obtain ⟨h2, h⟩ := and2 h
  obtain ⟨h3, h⟩ := and2 h
  obtain ⟨h4, h⟩ := and2 h
  obtain ⟨h5, h⟩ := and2 h
  obtain ⟨h6, h7⟩ := and2 h
  refine ⟨?_, by simpa using h2, by simpa using h3, of_decide_eq_true h4, of_decide_eq_true h5, fun x hx => ?_, fun y hy e => ?_⟩
  · split at h1
    · assumption
    · cases h1
  · have := List.all_eq_true.mp h6 x hx
    split at this
    · exact .inl (by assumption)
    · exact .inr (by assumption)
    · cases this
  · have := List.all_eq_true.mp h7 y hy
    rw [e] at this
    cases this
/-- one def, looked at -/
def defB (f : Nat) : Bool := match L.fn[f]?, L.P.defs f with
  | some d, some (k, core) => fnScopeB (L.names f) (L.ps f) d.scope && (decide (k = (L.names f).length) && (matchSs (L.gam f) core d.body && (wfSs L.P.sg core && decide ((L.ps f).length = (L.P.sg.modes f).length))))
  | _, _ => false
/-- the table, looked at -/
def tabB : Bool := ((List.range L.fn.length).all fun i => match L.fn[i]? with
    | some d => (match L.meth i with
      | none => decide (d.at_ = (d.name, none))
      | some c => decide (c < L.cl.length) && decide (d.at_ = (L.cn c, some d.name))) && (d.dfl.isEmpty && (d.kwd.isEmpty && !L.fields.contains d.name))
    | none => false) && (decide L.fields.Nodup && ((L.fields.all fun x => decide (x.cps.size < 100)) && L.con.all fun p => match p.2 with | .int _ => true | .str _ => true | _ => false))
/-- what a class may hold -/
def gdB (c f : Nat) : Bool := decide (c < L.cl.length) && decide (f < L.fields.length)
variable {L}
theorem io_mem {ms : List Md} {i : Nat} (h : ms[i]? = some .io) : i ∈ ioIx ms := by
  unfold ioIx
  refine List.mem_filter.mpr ⟨List.mem_range.mpr (List.getElem?_eq_some_iff.mp h).1, ?_⟩
  rw [h]
theorem defT_by {f : Nat} {d : He.DefD} (hd : L.fn[f]? = some d) (h : L.defB f = true) : DefT L.P (L.gam f) f (L.ps f) d.body d.scope := by
  unfold defB at h
  rw [hd] at h
  split at h
  · rename_i d' k core e1 e2
    cases e1
    obtain ⟨h1, h⟩ := and2 h
    obtain ⟨h2, h⟩ := and2 h
    obtain ⟨h3, h⟩ := and2 h
    obtain ⟨h4, h5⟩ := and2 h
    have ek := of_decide_eq_true h2
    subst ek
    refine ⟨fnScope_by h1, ?_, rfl, ⟨core, e2, h3, h4⟩, of_decide_eq_true h5, fun i hi => io_mem hi⟩
    show L.sco f = d.scope
    unfold sco
    rw [hd]
  · cases h
def wd (L : LawD) (K : PySem.W.Frag) : Wd := ⟨K, fun c => He.ga K (L.cn c), fnL L.fields, []⟩
section
variable {K : PySem.W.Frag} {h : Heap} {mg : Str → Option Value}
theorem says {fa : List He.Fa} {fn : List He.DefD} (c : He.SaysD fa fn K) {f : He.Fa} (hf : f ∈ fa) : f.ok K = true := by
  obtain ⟨i, hi, e⟩ := List.getElem_of_mem hf
  exact c.fact i (by rw [List.getElem?_eq_getElem hi, e])
theorem tab_at (ht : L.tabB = true) {i : Nat} {d : He.DefD} (hd : L.fn[i]? = some d) : (match L.meth i with
      | none => d.at_ = (d.name, none)
      | some c => c < L.cl.length ∧ d.at_ = (L.cn c, some d.name)) ∧ d.dfl = [] ∧ d.kwd = [] ∧ d.name ∉ L.fields := by
  obtain ⟨h1, _⟩ := and2 ht
  have hi := (List.getElem?_eq_some_iff.mp hd).1
  have := List.all_eq_true.mp h1 i (List.mem_range.mpr hi)
  rw [hd] at this
  obtain ⟨q1, q⟩ := and2 this
  obtain ⟨q2, q⟩ := and2 q
  obtain ⟨q3, q4⟩ := and2 q
  refine ⟨?_, by simpa using q2, by simpa using q3, fun hm => ?_⟩
  · revert q1
    cases L.meth i with
    | none => exact fun q1 => of_decide_eq_true q1
    | some c => exact fun q1 => ⟨of_decide_eq_true (and2 q1).1, of_decide_eq_true (and2 q1).2⟩
  · rw [List.contains_iff_mem.mpr hm] at q4
    cases q4
theorem wok (ht : L.tabB = true) (hg : L.P.sg.gd = L.gdB) (c : He.SaysD L.fa L.fn K) : WOk (L.wd K) L.P.sg.gd := by
  obtain ⟨_, h2⟩ := and2 ht
  obtain ⟨h2, h3⟩ := and2 h2
  obtain ⟨h3, _⟩ := and2 h3
  refine ⟨fnL_inj (of_decide_eq_true h2) fun x hx => of_decide_eq_true (List.all_eq_true.mp h3 x hx), fun cc f hcf => ?_⟩
  rw [hg] at hcf
  obtain ⟨q1, q2⟩ := and2 hcf
  have q1 := of_decide_eq_true q1
  have q2 := of_decide_eq_true q2
  have ec : L.cl[cc]? = some (L.cn cc) := by
    unfold cn
    rw [List.getElem?_eq_getElem q1]
    rfl
  have mc : ∀ {f : He.Fa}, f ∈ ([He.Fa.glo (L.cn cc), He.Fa.cls (L.cn cc), He.Fa.mkr (L.cn cc)] ++ L.fields.map fun f => He.Fa.noat (L.cn cc) f) → f.ok K = true := fun {f} hf =>
    says c (List.mem_append_right _ (List.mem_append_right _ (List.mem_append_left _ (List.mem_flatMap.mpr ⟨_, List.mem_of_getElem? ec, hf⟩))))
  refine ⟨He.cls_ok (mc (f := .cls (L.cn cc)) (by simp)), ?_⟩
  have ef : fnL L.fields f = L.fields[f] := by
    unfold fnL
    rw [List.getElem?_eq_getElem q2]
  show NoAttr K (He.ga K (L.cn cc)) (fnL L.fields f)
  rw [ef]
  exact He.noat_ok (mc (f := .noat (L.cn cc) L.fields[f]) (List.mem_append_right _ (List.mem_map.mpr ⟨_, List.getElem_mem q2, rfl⟩)))
theorem modOk (ht : L.tabB = true) (hg : L.P.sg.gd = L.gdB) (X : K.In h) (G : h.Ns mainGlobals mg) (c : He.SaysD L.fa L.fn K) (f : Nat) : ModOk K mg (L.wd K) L.P.sg (L.gam f) := by
  refine ⟨rfl, fun x hx => He.free_ok X G (says c (List.mem_append_left _ (List.mem_map.mpr ⟨x, hx, rfl⟩))), fun x d hx => ?_, wok ht hg c, fun _ => rfl⟩
  have hm : (x, d) ∈ L.con := PySem.mem_of_lookup hx
  obtain ⟨_, h2⟩ := and2 ht
  obtain ⟨_, h2⟩ := and2 h2
  obtain ⟨_, h2⟩ := and2 h2
  have hk := List.all_eq_true.mp h2 _ hm
  have inF : ∀ {f : He.Fa}, f ∈ L.con.filterMap (fun p => match p.2 with
      | .int i => some (He.Fa.int p.1 i)
      | .str z => some (He.Fa.str p.1 z)
      | _ => none) → f.ok K = true := fun {f} hf => says c (List.mem_append_right _ (List.mem_append_right _ (List.mem_append_right _ hf)))
  cases d <;> first | (cases hk; done) | skip
  · rename_i i
    obtain ⟨t, e⟩ := He.int_ok (x := x) (i := i) X G (inF (List.mem_filterMap.mpr ⟨_, hm, rfl⟩))
    exact ⟨V.int i, _, e, ⟨t, rfl⟩, rfl, fun F => rfl⟩
  · rename_i z
    obtain ⟨t, e⟩ := He.str_ok (x := x) (z := z) X G (inF (List.mem_filterMap.mpr ⟨_, hm, rfl⟩))
    exact ⟨V.str z, _, e, ⟨t, rfl⟩, rfl, fun F => rfl⟩
/-- all defs keep what the interpreter says of them -/
theorem main {Pg : Program} {wo : World} {base : Heap} (ht : L.tabB = true) (hd : ∀ f, f < L.fn.length → L.defB f = true) (hg : L.P.sg.gd = L.gdB)
    (hb : ∀ (f : Nat) (d : He.DefD), L.fn[f]? = some d → ∀ (kV doc pm : Value) (an : Option Addr) (cdv ct : Value) (us : List Value), us.length = (L.ps f).length → bindArgs (PySem.W.fnOf d.name d.qual d.params d.body d.scope .none kV doc pm an cdv ct) ⟨us, []⟩ = pure ((L.ps f).zip us))
    (X : K.In h) (G : h.Ns mainGlobals mg) (c : He.SaysD L.fa L.fn K) (n f : Nat) {d : He.DefD} (hf : L.fn[f]? = some d) :
    ∃ fd, FunD K d.name d.qual d.params d.body d.scope [] [] (He.fAd K d.at_) fd ∧ FnG (L.P.sg.grd f) Pg wo K mg base (L2.CX Pg wo) (2 * n) (He.fAd K d.at_) fd (L.ps f) (spD ((L.wd K).on []) (L.P.sg.modes f).length (callD L.P n f)) := by
  have fun1 : ∀ (f : Nat) (d : He.DefD), L.fn[f]? = some d → ∃ fd, FunD K d.name d.qual d.params d.body d.scope [] [] (He.fAd K d.at_) fd := fun f d hf => by
    obtain ⟨fd, F⟩ := c.def_ f hf
    obtain ⟨_, d1, d2, _⟩ := tab_at ht hf
    have e1 : d.dvs K = [] := by unfold He.DefD.dvs; rw [d1]; rfl
    have e2 : d.kws K = [] := by unfold He.DefD.kws; rw [d2]; rfl
    rw [e1, e2] at F
    exact ⟨fd, F⟩
  have hf0 := hf
  have pick : ∃ fdf : Nat → FuncData, ∀ (f : Nat) (d : He.DefD), L.fn[f]? = some d → FunD K d.name d.qual d.params d.body d.scope [] [] (He.fAd K d.at_) (fdf f) := by
    have : ∀ f : Nat, ∃ fd : FuncData, ∀ d : He.DefD, L.fn[f]? = some d → FunD K d.name d.qual d.params d.body d.scope [] [] (He.fAd K d.at_) fd := fun f => by
      cases hf1 : L.fn[f]? with
      | none =>
        obtain ⟨fd, _⟩ := fun1 _ _ hf0
        exact ⟨fd, fun d h => by cases h⟩
      | some d' =>
        obtain ⟨fd, F⟩ := fun1 f d' hf1
        exact ⟨fd, fun d h => by cases h; exact F⟩
    exact ⟨fun f => Classical.choose (this f), fun f => Classical.choose_spec (this f)⟩
  obtain ⟨fdf, hfd⟩ := pick
  let at_ : Nat → Addr := fun f => match L.fn[f]? with
    | some d => He.fAd K d.at_
    | none => 0
  have at_e : ∀ {f : Nat} {d : He.DefD}, L.fn[f]? = some d → at_ f = He.fAd K d.at_ := fun {f d} h => by
    show (match L.fn[f]? with | some d => He.fAd K d.at_ | none => 0) = _
    rw [h]
  have nm_e : ∀ {f : Nat} {d : He.DefD}, L.fn[f]? = some d → L.nm f = d.name := fun {f d} h => by
    unfold nm
    rw [h]
  have get : ∀ {f : Nat}, f < L.fn.length → ∃ d, L.fn[f]? = some d := fun {f} h => ⟨_, List.getElem?_eq_getElem h⟩
  have bnd : ∀ (f : Nat) (d : He.DefD), L.fn[f]? = some d → Binds K (fdf f) (L.ps f) [] := fun f d h => (hfd f d h).bindsN (hb f d h)
  have faF : ∀ {d : He.DefD}, d ∈ L.fn → ∀ {f : He.Fa}, (match d.at_.2 with
      | none => some (He.Fa.glo d.at_.1)
      | some m => some (He.Fa.meth d.at_.1 m)) = some f → f.ok K = true := fun {d} hm {f} hf => says c (List.mem_append_right _ (List.mem_append_left _ (List.mem_filterMap.mpr ⟨d, hm, hf⟩)))
  have clF : ∀ {cc : Nat}, cc < L.cl.length → ∀ {f : He.Fa}, f ∈ ([He.Fa.glo (L.cn cc), He.Fa.cls (L.cn cc), He.Fa.mkr (L.cn cc)] ++ L.fields.map fun f => He.Fa.noat (L.cn cc) f) → f.ok K = true := fun {cc} hcc {f} hf => by
    have ec : L.cl[cc]? = some (L.cn cc) := by
      unfold cn
      rw [List.getElem?_eq_getElem hcc]
      rfl
    exact says c (List.mem_append_right _ (List.mem_append_right _ (List.mem_append_left _ (List.mem_flatMap.mpr ⟨_, List.mem_of_getElem? ec, hf⟩))))
  have show1 : ∀ {f f' : Nat}, L.mayShow f f' = true → (L.gam f').gd = true → (L.gam f).gd = true := fun {f f'} h1 h2 => by
    have h2' : L.P.sg.grd f' = true := h2
    unfold mayShow at h1
    rw [h2'] at h1
    show L.P.sg.grd f = true
    simpa using h1
  have mt1 : ∀ {cc f' : Nat}, L.isMt cc f' = true → f' < L.fn.length ∧ cc < L.cl.length ∧ at_ f' = He.ma K (He.ga K (L.cn cc)) (L.nm f') ∧ Meth K (He.ga K (L.cn cc)) (L.nm f') (at_ f') ∧ L.nm f' ∉ L.fields := fun {cc f'} h => by
    obtain ⟨m1, m2⟩ := and2 h
    have m1 := of_decide_eq_true m1
    have m2 := of_decide_eq_true m2
    obtain ⟨d', hd'⟩ := get m1
    obtain ⟨t1, _, _, t4⟩ := tab_at ht hd'
    rw [m2] at t1
    obtain ⟨t1, t2⟩ := t1
    have ea : at_ f' = He.ma K (He.ga K (L.cn cc)) (L.nm f') := by
      rw [at_e hd', nm_e hd', t2]
      rfl
    refine ⟨m1, t1, ea, ?_, by rw [nm_e hd']; exact t4⟩
    rw [ea, nm_e hd']
    exact He.meth_ok (faF (List.mem_of_getElem? hd') (f := .meth (L.cn cc) d'.name) (by rw [t2]))
  have all := all_fn (Pg := Pg) (wo := wo) (K := K) (mg := mg) (base := base) (w0 := L.wd K) (P := L.P) L.gam at_ fdf L.ps L.fn.length (fun f hlt => ?_) (fun f hlt f' h => ?_) (fun f hlt cc f' h => ?_) (fun f hlt cc h => ?_) n f (List.getElem?_eq_some_iff.mp hf).1
  · refine ⟨fdf f, hfd f d hf, ?_⟩
    rw [at_e hf] at all
    exact all
  · obtain ⟨d', hd'⟩ := get hlt
    refine ⟨d'.name, d'.qual, d'.params, d'.body, d'.scope, ?_, defT_by hd' (hd f hlt), modOk ht hg X G c f, bnd f d' hd'⟩
    rw [at_e hd']
    exact hfd f d' hd'
  · obtain ⟨h1, h2⟩ := and2 (show (L.isFn f' && L.mayShow f f') = true from h)
    obtain ⟨q1, q2⟩ := and2 h1
    have q1 := of_decide_eq_true q1
    obtain ⟨d', hd'⟩ := get q1
    obtain ⟨t1, _⟩ := tab_at ht hd'
    have q2' : L.meth f' = none := by simpa using q2
    rw [q2'] at t1
    refine ⟨q1, ?_, ?_, show1 h2⟩
    · show mg (L.nm f') = _
      rw [nm_e hd', at_e hd', t1]
      exact He.glo_ok X G (faF (List.mem_of_getElem? hd') (f := .glo d'.name) (by rw [t1]))
    · rw [at_e hd']
      exact (hfd f' d' hd').kp
  · obtain ⟨h1, h2⟩ := and2 (show (L.isMt cc f' && L.mayShow f f') = true from h)
    obtain ⟨m1, m2, m3, m4, m5⟩ := mt1 h1
    refine ⟨m1, He.cls_ok (clF m2 (f := .cls (L.cn cc)) (by simp)), m4, fun z hz e => ?_, show1 h2⟩
    rw [hg] at hz
    have hz := of_decide_eq_true (and2 hz).2
    have e' : fnL L.fields z = L.nm f' := e
    unfold fnL at e'
    rw [List.getElem?_eq_getElem hz] at e'
    exact m5 (e' ▸ List.getElem_mem hz)
  · obtain ⟨h1, h⟩ := and2 h
    have h1 := of_decide_eq_true h1
    obtain ⟨h2, h⟩ := and2 h
    obtain ⟨h3, h⟩ := and2 h
    obtain ⟨h4, h5⟩ := and2 h
    obtain ⟨m1, m2, m3, m4, m5⟩ := mt1 h2
    have h5 := of_decide_eq_true h5
    refine ⟨m1, ?_, He.glo_ok X G (clF h1 (f := .glo (L.cn cc)) (by simp)), ?_, not_eq h4⟩
    · rw [m3, h5]
      exact He.mkr_ok (clF h1 (f := .mkr (L.cn cc)) (by simp))
    · split at h3
      · rename_i ms e
        exact ⟨ms, e⟩
      · cases h3
end
end LawD
end DI
/-! DI9o: a law from its value. -/
namespace DI
open PySem L2 PySem.Spec PyProof.Rows
theorem funD_uniq {K : PySem.W.Frag} {x y q r : Str} {p p' : Arguments} {b b' : List Stmt} {s s' : Scope} {dv dv' : List V} {kw kw' : List (Str × V)} {f : Addr} {fd fd' : FuncData} (F : FunD K x q p b s dv kw f fd) (F' : FunD K y r p' b' s' dv' kw' f fd') : fd' = fd := by
  obtain ⟨_, _, _, _, _, _, _, _, _, _, _, lk, _⟩ := F.ex
  obtain ⟨_, _, _, _, _, _, _, _, _, _, _, lk', _⟩ := F'.ex
  rw [lk] at lk'
  injection lk' with e
  injection e with _ _ e _
  injection e with e
  exact e.symm
theorem LawD.fin {L : LawD} {Pg : Program} {wo : World} {K : PySem.W.Frag} {h : Heap} {mg : Str → Option Value} {fa : Addr} {d : He.DefD} {n : Nat} (ht : L.tabB = true) (hd : ∀ f, f < L.fn.length → L.defB f = true) (hg : L.P.sg.gd = L.gdB)
    (hb : ∀ (f : Nat) (d : He.DefD), L.fn[f]? = some d → ∀ (kV doc pm : Value) (an : Option Addr) (cdv ct : Value) (us : List Value), us.length = (L.ps f).length → bindArgs (PySem.W.fnOf d.name d.qual d.params d.body d.scope .none kV doc pm an cdv ct) ⟨us, []⟩ = pure ((L.ps f).zip us))
    (X : K.In h) (G : h.Ns mainGlobals mg) (c : He.SaysD L.fa L.fn K) (hf : L.fn[0]? = some d) (hat : d.at_ = (d.name, none)) (hps : L.ps 0 = [("script" : Str)]) (hm : (L.P.sg.modes 0).length = 1) (hs : L.P.sg.grd 0 = true) (hmg : mg d.name = some (.ref fa))
    (hval : ∀ ns : List Int, ns.length ≤ 63 → ∃ s outs, callD L.P n 0 [(.frz, .scr ns)] = some (.ok (s, .bl true) outs)) :
    ∃ (K : PySem.W.Frag) (fd : FuncData) (sp : Sp), K.In h ∧ (∀ (s : Shared) (u : Value), BindsTo s fd ⟨[u], []⟩ [("script", u)]) ∧ (∀ (G : L2.Hp) (a : Addr) (ns : List Int), ns.length ≤ 63 → SqL K G a (ns.map V.int) → sp [.ref a] G (fun v _ => v = .bl true) fun _ _ _ => False) ∧
        ∀ base : Heap, K.In base → base.Ns mainGlobals mg → FnG true Pg wo K mg base (L2.CX Pg wo) (2 * n) fa fd [("script" : Str)] sp := by
  obtain ⟨fd, F, _⟩ := LawD.main (Pg := Pg) (wo := wo) (base := h) ht hd hg hb X G c n 0 hf
  have ea : He.fAd K d.at_ = fa := by
    have q := He.glo_ok (x := d.name) X G (LawD.says c (List.mem_append_right _ (List.mem_append_left _ (List.mem_filterMap.mpr ⟨_, List.mem_of_getElem? hf, by rw [hat]⟩))))
    have z := hmg.symm.trans q
    injection z with z
    injection z with z
    rw [hat]
    exact z.symm
  have bd := F.bindsA (hb 0 d hf)
  rw [hps] at bd
  refine ⟨K, fd, spD ((L.wd K).on []) (L.P.sg.modes 0).length (callD L.P n 0), X, fun s u => bd s [u] rfl, fun G a ns hl hS => ?_, fun base B N => ?_⟩
  · obtain ⟨s, outs, hv⟩ := hval ns hl
    exact law_sp (w0 := L.wd K) hm hS hv
  · obtain ⟨fd', F', Q⟩ := LawD.main (Pg := Pg) (wo := wo) (base := base) ht hd hg hb X G c n 0 hf
    have e := funD_uniq F F'
    subst e
    rw [ea, hs, hps] at Q
    exact Q
end DI
/-! PL0: the defs that most laws share. -/
namespace DI.PL
open PySem DI
def take_n : Nat := 6
def take_c : Ss := (.cons (.ife (.app .eq (.cons (.pl (.ix (.var 0) (.cst (.int (0))))) (.cons (.cst (.int (0))) .nil))) (.cons (.asg (.nm 4) (.cst (.int (0)))) (.cons (.ife (.app .lt (.cons (.pl (.ix (.var 0) (.cst (.int (2))))) (.cons (.app .len (.cons (.pl (.ix (.var 0) (.cst (.int (3))))) .nil)) .nil))) (.cons (.asg (.nm 4) (.app .ix (.cons (.pl (.ix (.var 0) (.cst (.int (3))))) (.cons (.pl (.ix (.var 0) (.cst (.int (2))))) .nil)))) .nil) .nil) (.cons (.augi (.var 0) (.cst (.int (2))) .add (.cst (.int (1)))) (.cons (.ife (.app .ge (.cons (.pl (.var 4)) (.cons (.cst (.int (1000000000000000000))) .nil))) (.cons (.seti (.var 0) (.cst (.int (0))) (.fz 4)) .nil) .nil) (.cons (.seti (.var 0) (.cst (.int (1))) (.app .mod (.cons (.app .add (.cons (.app .add (.cons (.app .mul (.cons (.pl (.ix (.var 0) (.cst (.int (1))))) (.cons (.cst (.int (48271))) .nil))) (.cons (.app .mod (.cons (.pl (.var 4)) (.cons (.cst (.int (2147483647))) .nil))) .nil))) (.cons (.app .mul (.cons (.cst (.int (7919))) (.cons (.pl (.ix (.var 0) (.cst (.int (2))))) .nil))) .nil))) (.cons (.cst (.int (2147483647))) .nil)))) .nil))))) .nil) (.cons (.ife (.app .gt (.cons (.pl (.ix (.var 0) (.cst (.int (0))))) (.cons (.cst (.int (0))) .nil))) (.cons (.asg (.nm 5) (.app .mod (.cons (.pl (.ix (.var 0) (.cst (.int (0))))) (.cons (.pl (.var 1)) .nil)))) (.cons (.seti (.var 0) (.cst (.int (0))) (.app .fdiv (.cons (.pl (.ix (.var 0) (.cst (.int (0))))) (.cons (.pl (.var 1)) .nil)))) (.cons (.ret (.fz 5)) .nil))) .nil) (.cons (.asg (.nm 2) (.app .mod (.cons (.app .mul (.cons (.app .add (.cons (.pl (.ix (.var 0) (.cst (.int (1))))) (.cons (.cst (.int (1))) .nil))) (.cons (.cst (.int (39373))) .nil))) (.cons (.cst (.int (1000000007))) .nil)))) (.cons (.asg (.nm 3) (.app .mod (.cons (.app .mul (.cons (.app .mod (.cons (.app .mul (.cons (.pl (.var 2)) (.cons (.pl (.var 2)) .nil))) (.cons (.cst (.int (998244353))) .nil))) (.cons (.cst (.int (30011))) .nil))) (.cons (.cst (.int (998244353))) .nil)))) (.cons (.ife (.app .gt (.cons (.pl (.var 1)) (.cons (.cst (.int (1000000))) .nil))) (.cons (.ret (.app .mod (.cons (.app .add (.cons (.app .mul (.cons (.pl (.var 3)) (.cons (.cst (.int (1000000007))) .nil))) (.cons (.pl (.var 2)) .nil))) (.cons (.pl (.var 1)) .nil)))) .nil) .nil) (.cons (.ret (.app .mod (.cons (.app .fdiv (.cons (.pl (.var 3)) (.cons (.cst (.int (7))) .nil))) (.cons (.pl (.var 1)) .nil)))) .nil))))))
def bag_n : Nat := 2
def bag_c : Ss := (.cons (.ret (.lst .frz (.cons (.cst (.int (0))) (.cons (.cst (.int (1234567891))) (.cons (.cst (.int (0))) (.cons (.lc [1] (.nm 1) (.e (.app (.sl false true) (.cons (.pl (.var 0)) (.cons (.cst (.int (63))) .nil)))) .nil (.app .abs (.cons (.pl (.var 1)) .nil)) .frz) .nil)))))) .nil)
def names_n : Nat := 11
def names_c : Ss := (.cons (.asg (.nm 2) (.cst (.str "abcdefghijklmnopqrstuvwxyz"))) (.cons (.asg (.nm 3) (.cst (.str "call retire hire late undo redo line live keepers log ends depth settle lose reach"))) (.cons (.asg (.nm 3) (.bm .split (.app .add (.cons (.pl (.var 3)) (.cons (.cst (.str " safe calls cycle ok workers desk a b ab")) .nil))) (.cons (.cst (.str " ")) .nil))) (.cons (.asg (.tup (.cons (.nm 8) (.cons (.nm 9) .nil))) (.tup (.cons (.call 1 (.cons (.pl (.var 0)) (.cons (.cst (.int (5))) .nil))) (.cons (.call 1 (.cons (.pl (.var 0)) (.cons (.cst (.int (26))) .nil))) .nil)))) (.cons (.asg (.nm 4) (.app .add (.cons (.cst (.int (1))) (.cons (.call 1 (.cons (.pl (.var 0)) (.cons (.cst (.int (6))) .nil))) .nil)))) (.cons (.asg (.nm 5) (.bm .join (.cst (.str "")) (.cons (.lc [10] (.nm 10) (.rng (.cons (.pl (.var 4)) .nil)) .nil (.app .ix (.cons (.pl (.var 2)) (.cons (.call 1 (.cons (.pl (.var 0)) (.cons (.cst (.int (26))) .nil))) .nil))) .frz) .nil))) (.cons (.asg (.nm 6) (.call 1 (.cons (.pl (.var 0)) (.cons (.pl (.var 4)) .nil)))) (.cons (.ife (.and (.app .eq (.cons (.pl (.var 8)) (.cons (.cst (.int (0))) .nil))) (.app .le (.cons (.pl (.var 1)) (.cons (.cst (.int (24))) .nil)))) (.cons (.ret (.app (.sl false true) (.cons (.app .add (.cons (.app (.sl true false) (.cons (.pl (.var 3)) (.cons (.app .mod (.cons (.pl (.var 9)) (.cons (.cst (.int (24))) .nil))) .nil))) (.cons (.app (.sl false true) (.cons (.pl (.var 3)) (.cons (.app .mod (.cons (.pl (.var 9)) (.cons (.cst (.int (24))) .nil))) .nil))) .nil))) (.cons (.pl (.var 1)) .nil)))) .nil) .nil) (.cons (.ife (.and (.app .eq (.cons (.pl (.var 8)) (.cons (.cst (.int (1))) .nil))) (.app .le (.cons (.pl (.var 1)) (.cons (.cst (.int (8))) .nil)))) (.cons (.ret (.lc [10] (.nm 10) (.rng (.cons (.pl (.var 1)) .nil)) .nil (.app (.sl false true) (.cons (.app .mul (.cons (.pl (.ix (.var 2) (.var 9))) (.cons (.cst (.int (8))) .nil))) (.cons (.app .add (.cons (.pl (.var 10)) (.cons (.cst (.int (1))) .nil))) .nil))) .frz)) .nil) .nil) (.cons (.asg (.nm 7) (.lc [10] (.nm 10) (.rng (.cons (.pl (.var 1)) .nil)) .nil (.app .add (.cons (.app .add (.cons (.app (.sl false true) (.cons (.pl (.var 5)) (.cons (.pl (.var 6)) .nil))) (.cons (.app .ix (.cons (.pl (.var 2)) (.cons (.app .mod (.cons (.app .add (.cons (.pl (.var 9)) (.cons (.app .mul (.cons (.cst (.int (3))) (.cons (.pl (.var 10)) .nil))) .nil))) (.cons (.cst (.int (26))) .nil))) .nil))) .nil))) (.cons (.app (.sl true false) (.cons (.pl (.var 5)) (.cons (.app .add (.cons (.pl (.var 6)) (.cons (.cst (.int (1))) .nil))) .nil))) .nil))) .frz)) (.cons (.ret (.lc [10] (.nm 10) (.rng (.cons (.pl (.var 1)) .nil)) .nil (.app .add (.cons (.pl (.ix (.var 7) (.var 10))) (.cons (.app .mul (.cons (.pl (.ix (.var 5) (.cst (.int (0))))) (.cons (.app .fdiv (.cons (.pl (.var 10)) (.cons (.cst (.int (26))) .nil))) .nil))) .nil))) .frz)) .nil)))))))))))
def mixed_n : Nat := 4
def mixed_c : Ss := (.cons (.asg (.nm 2) (.lst .frz .nil)) (.cons (.for (.nm 3) (.e (.pl (.var 1))) (.cons (.exp (.mut .insert (.var 2) (.cons (.call 1 (.cons (.pl (.var 0)) (.cons (.app .add (.cons (.app .len (.cons (.pl (.var 2)) .nil)) (.cons (.cst (.int (1))) .nil))) .nil))) (.cons (.fz 3) .nil)))) .nil)) (.cons (.ret (.fz 2)) .nil)))
def crew_n : Nat := 8
def crew_c : Ss := (.cons (.asg (.nm 3) (.app .len (.cons (.pl (.var 1)) .nil))) (.cons (.asg (.tup (.cons (.nm 4) (.cons (.nm 5) .nil))) (.tup (.cons (.call 1 (.cons (.pl (.var 0)) (.cons (.pl (.var 3)) .nil))) (.cons (.call 1 (.cons (.pl (.var 0)) (.cons (.pl (.var 3)) .nil))) .nil)))) (.cons (.ife (.app .eq (.cons (.pl (.var 2)) (.cons (.cst (.int (0))) .nil))) (.cons (.ret (.lst .frz (.cons (.pl (.ix (.var 1) (.var 4))) .nil))) .nil) .nil) (.cons (.ife (.app .eq (.cons (.pl (.var 2)) (.cons (.cst (.int (1))) .nil))) (.cons (.ret (.app .add (.cons (.lst .frz (.cons (.pl (.ix (.var 1) (.var 4))) .nil)) (.cons (.app .mul (.cons (.lst .frz (.cons (.pl (.ix (.var 1) (.var 5))) .nil)) (.cons (.app .int (.cons (.app .ne (.cons (.pl (.var 5)) (.cons (.pl (.var 4)) .nil))) .nil)) .nil))) .nil)))) .nil) .nil) (.cons (.ife (.app .eq (.cons (.pl (.var 2)) (.cons (.cst (.int (2))) .nil))) (.cons (.ret (.call 4 (.cons (.pl (.var 0)) (.cons (.sl2 (.pl (.var 1)) (.app .min2 (.cons (.pl (.var 4)) (.cons (.pl (.var 5)) .nil))) (.app .add (.cons (.app .max2 (.cons (.pl (.var 4)) (.cons (.pl (.var 5)) .nil))) (.cons (.cst (.int (1))) .nil)))) .nil)))) .nil) .nil) (.cons (.ife (.app .eq (.cons (.pl (.var 2)) (.cons (.cst (.int (3))) .nil))) (.cons (.asg (.nm 6) (.lc [7] (.nm 7) (.e (.pl (.var 1))) (.cons (.or (.app .eq (.cons (.pl (.var 7)) (.cons (.pl (.ix (.var 1) (.var 4))) .nil))) (.app .eq (.cons (.call 1 (.cons (.pl (.var 0)) (.cons (.cst (.int (3))) .nil))) (.cons (.cst (.int (0))) .nil)))) .nil) (.fz 7) .frz)) (.cons (.ret (.call 4 (.cons (.pl (.var 0)) (.cons (.fz 6) .nil)))) .nil)) .nil) (.cons (.ret (.call 4 (.cons (.pl (.var 0)) (.cons (.fz 1) .nil)))) .nil)))))))
def parts_n : Nat := 12
def parts_c : Ss := (.cons (.asg (.nm 3) (.app .add (.cons (.cst (.int (1))) (.cons (.call 1 (.cons (.pl (.var 0)) (.cons (.pl (.var 1)) .nil))) .nil)))) (.cons (.asg (.nm 4) (.call 3 (.cons (.pl (.var 0)) (.cons (.pl (.var 3)) .nil)))) (.cons (.asg (.nm 5) (.call 3 (.cons (.pl (.var 0)) (.cons (.call 1 (.cons (.pl (.var 0)) (.cons (.app .add (.cons (.pl (.var 2)) (.cons (.cst (.int (1))) .nil))) .nil))) .nil)))) (.cons (.asg (.nm 6) (.call 1 (.cons (.pl (.var 0)) (.cons (.cst (.int (6))) .nil)))) (.cons (.asg (.nm 7) (.lst .frz .nil)) (.cons (.for (.tup (.cons (.nm 8) (.cons (.nm 9) .nil))) (.enum (.pl (.var 5))) (.cons (.asg (.nm 10) (.app .ix (.cons (.lst .frz (.cons (.call 1 (.cons (.pl (.var 0)) (.cons (.cst (.int (5))) .nil))) (.cons (.call 1 (.cons (.pl (.var 0)) (.cons (.cst (.int (5))) .nil))) (.cons (.cst (.int (1))) (.cons (.cst (.int (2))) (.cons (.cst (.int (3))) (.cons (.app .int (.cons (.app .ge (.cons (.pl (.var 8)) (.cons (.pl (.var 3)) .nil))) .nil)) .nil))))))) (.cons (.pl (.var 6)) .nil)))) (.cons (.asg (.nm 11) (.call 5 (.cons (.pl (.var 0)) (.cons (.fz 4) (.cons (.pl (.var 10)) .nil))))) (.cons (.ife (.and (.app .eq (.cons (.pl (.var 6)) (.cons (.cst (.int (5))) .nil))) (.app .lt (.cons (.pl (.var 8)) (.cons (.pl (.var 3)) .nil)))) (.cons (.asg (.nm 11) (.lst .frz (.cons (.pl (.ix (.var 4) (.var 8))) .nil))) .nil) .nil) (.cons (.exp (.mut .append (.var 7) (.cons (.tup (.cons (.fz 9) (.cons (.fz 11) .nil))) .nil))) .nil))))) (.cons (.ife (.and (.app .gt (.cons (.app .len (.cons (.pl (.var 7)) .nil)) (.cons (.cst (.int (1))) .nil))) (.app .eq (.cons (.call 1 (.cons (.pl (.var 0)) (.cons (.cst (.int (4))) .nil))) (.cons (.cst (.int (0))) .nil)))) (.cons (.seti (.var 7) (.app .neg (.cons (.cst (.int (1))) .nil)) (.tup (.cons (.pl (.ix (.ix (.var 7) (.cst (.int (-1)))) (.cst (.int (0))))) (.cons (.call 4 (.cons (.pl (.var 0)) (.cons (.pl (.ix (.ix (.var 7) (.cst (.int (0)))) (.cst (.int (1))))) .nil))) .nil)))) .nil) .nil) (.cons (.ret (.tup (.cons (.call 4 (.cons (.pl (.var 0)) (.cons (.fz 4) .nil))) (.cons (.call 4 (.cons (.pl (.var 0)) (.cons (.fz 7) .nil))) .nil)))) .nil))))))))
def sized_n : Nat := 3
def sized_c : Ss := (.cons (.asg (.tup (.cons (.nm 1) (.cons (.nm 2) .nil))) (.app .ix (.cons (.lst .frz (.cons (.tup (.cons (.cst (.int (5))) (.cons (.cst (.int (7))) .nil))) (.cons (.tup (.cons (.cst (.int (5))) (.cons (.cst (.int (7))) .nil))) (.cons (.tup (.cons (.cst (.int (8))) (.cons (.cst (.int (12))) .nil))) (.cons (.tup (.cons (.cst (.int (40))) (.cons (.cst (.int (60))) .nil))) .nil))))) (.cons (.call 1 (.cons (.pl (.var 0)) (.cons (.cst (.int (4))) .nil))) .nil)))) (.cons (.ret (.call 6 (.cons (.pl (.var 0)) (.cons (.pl (.var 1)) (.cons (.pl (.var 2)) .nil))))) .nil))
def roster_n : Nat := 3
def roster_c : Ss := (.cons (.ret (.new 0 (.cons (.app .list (.cons (.pl (.ix (.var 0) (.cst (.int (0))))) .nil)) (.cons (.lc [1, 2] (.tup (.cons (.nm 1) (.cons (.nm 2) .nil))) (.e (.pl (.ix (.var 0) (.cst (.int (1)))))) .nil (.tup (.cons (.fz 1) (.cons (.app .list (.cons (.pl (.var 2)) .nil)) .nil))) .frz) .nil)))) .nil)
def alike_n : Nat := 2
def alike_c : Ss := (.cons (.ret (.and (.app .eq (.cons (.pl (.var 0)) (.cons (.pl (.var 1)) .nil))) (.app .eq (.cons (.app .repr (.cons (.pl (.var 0)) .nil)) (.cons (.app .repr (.cons (.pl (.var 1)) .nil)) .nil))))) .nil)
def isName_n : Nat := 2
def isName_c : Ss := (.cons (.ife (.or (.not (.app (.isi 2) (.cons (.pl (.var 0)) .nil))) (.not (.chn .le .le (.cst (.int (1))) (.app .len (.cons (.pl (.var 0)) .nil)) (.glo "LONGEST_NAME" (.int (8)))))) (.cons (.ret (.cst (.bl false))) .nil) .nil) (.cons (.ret (.app .all (.cons (.lc [1] (.nm 1) (.e (.pl (.var 0))) .nil (.app .isIn (.cons (.pl (.var 1)) (.cons (.glo "LETTERS" (.str "abcdefghijklmnopqrstuvwxyz")) .nil))) .frz) .nil))) .nil))
def areNames_n : Nat := 2
def areNames_c : Ss := (.cons (.ife (.or (.not (.app (.isi 3) (.cons (.pl (.var 0)) .nil))) (.not (.app .all (.cons (.lc [1] (.nm 1) (.e (.pl (.var 0))) .nil (.call 10 (.cons (.pl (.var 1)) .nil)) .frz) .nil)))) (.cons (.ret (.cst (.bl false))) .nil) .nil) (.cons (.ret (.app .eq (.cons (.app .setlen (.cons (.pl (.var 0)) .nil)) (.cons (.app .len (.cons (.pl (.var 0)) .nil)) .nil)))) .nil))
def isDesk_n : Nat := 4
def isDesk_c : Ss := (.cons (.ife (.or (.not (.app (.isi 4) (.cons (.pl (.var 1)) .nil))) (.or (.app .ne (.cons (.app .len (.cons (.pl (.var 1)) .nil)) (.cons (.cst (.int (2))) .nil))) (.not (.call 10 (.cons (.pl (.ix (.var 1) (.cst (.int (0))))) .nil))))) (.cons (.ret (.cst (.bl false))) .nil) .nil) (.cons (.asg (.nm 2) (.pl (.ix (.var 1) (.cst (.int (1)))))) (.cons (.ret (.and (.call 11 (.cons (.pl (.var 2)) .nil)) (.and (.app .ne (.cons (.pl (.var 2)) (.cons (.lst .frz .nil) .nil))) (.app .all (.cons (.lc [3] (.nm 3) (.e (.pl (.var 2))) .nil (.app .isIn (.cons (.pl (.var 3)) (.cons (.pl (.var 0)) .nil))) .frz) .nil))))) .nil)))
def init_n : Nat := 6
def init_c : Ss := (.cons (.ife (.or (.not (.call 11 (.cons (.pl (.var 1)) .nil))) (.not (.chn .le .le (.cst (.int (1))) (.app .len (.cons (.pl (.var 1)) .nil)) (.glo "MOST_WORKERS" (.int (40)))))) (.cons .wall .nil) .nil) (.cons (.ife (.or (.not (.app (.isi 3) (.cons (.pl (.var 2)) .nil))) (.app .gt (.cons (.app .len (.cons (.pl (.var 2)) .nil)) (.cons (.glo "MOST_DESKS" (.int (60))) .nil)))) (.cons .wall .nil) .nil) (.cons (.asg (.nm 3) (.newd false .frz)) (.cons (.for (.tup (.cons (.nm 4) (.cons (.nm 5) .nil))) (.enum (.pl (.var 2))) (.cons (.ife (.or (.not (.call 12 (.cons (.pl (.var 1)) (.cons (.pl (.var 5)) .nil)))) (.app .isIn (.cons (.pl (.ix (.var 5) (.cst (.int (0))))) (.cons (.pl (.var 3)) .nil)))) (.cons .wall .nil) .nil) (.cons (.seti (.var 3) (.pl (.ix (.var 5) (.cst (.int (0))))) (.app .sorted (.cons (.pl (.ix (.var 5) (.cst (.int (1))))) .nil))) .nil))) (.cons (.seta (.var 0) 0 (.app .sorted (.cons (.pl (.var 1)) .nil))) (.cons (.seta (.var 0) 1 (.fz 3)) .nil))))))
def workers_n : Nat := 9
def workers_c : Ss := (.cons .wall (.cons .wall (.cons .wall .nil)))
def desks_n : Nat := 1
def desks_c : Ss := (.cons (.ret (.app .sorted (.cons (.pl (.attr (.var 0) 1)) .nil))) .nil)
def crewM_n : Nat := 2
def crewM_c : Ss := (.cons (.ife (.app .notIn (.cons (.pl (.var 1)) (.cons (.pl (.attr (.var 0) 1)) .nil))) (.cons .wall .nil) .nil) (.cons (.ret (.app .list (.cons (.pl (.ix (.attr (.var 0) 1) (.var 1))) .nil))) .nil))
end DI.PL
/-! PL1: steps of the interpreter; the bag. -/
namespace DI.PL
open PySem DI
/-- it goes well -/
def Ok {α : Type} (m : M α) (env : Env) (Q : α → Env → Prop) : Prop := ∃ a e, m env = some (.ok a e) ∧ Q a e
section
variable {α β : Type} {env : Env}
theorem Ok.bind {m : M α} {k : α → M β} {Q : β → Env → Prop} (h : Ok m env fun a e => Ok (k a) e Q) : Ok (M.bind m k) env Q := by
  obtain ⟨a, e, h1, b, e2, h2, q⟩ := h
  exact ⟨b, e2, by unfold M.bind; rw [h1]; exact h2, q⟩
theorem Ok.pure {a : α} {Q : α → Env → Prop} (h : Q a env) : Ok (M.pure a) env Q := ⟨a, env, rfl, h⟩
theorem Ok.opt {o : Option α} {a : α} {Q : α → Env → Prop} (e : o = some a) (h : Q a env) : Ok (M.opt o) env Q := ⟨a, env, by unfold M.opt; rw [e]; rfl, h⟩
theorem Ok.mono {m : M α} {Q Q' : α → Env → Prop} (h : Ok m env Q) (q : ∀ a e, Q a e → Q' a e) : Ok m env Q' := by
  obtain ⟨a, e, h1, h2⟩ := h
  exact ⟨a, e, h1, q a e h2⟩
theorem Ok.ite {c : Bool} {m m' : M α} {Q : α → Env → Prop} (hc : c = true) (h : Ok m env Q) : Ok (if c = true then m else m') env Q := by rw [if_pos hc]; exact h
theorem Ok.of {m : M α} {a : α} {e : Env} {Q : α → Env → Prop} (h : m env = some (.ok a e)) (q : Q a e) : Ok m env Q := ⟨a, e, h, q⟩
end
section
variable {sg : Sig} {cl : Calls} {env : Env} {Q : SD → Env → Prop}
theorem ev_pl {p : Pl} {x : SD} (h : p.get sg.gd env = some x) (q : Q x env) : Ok (ev sg cl (.pl p)) env Q := Ok.of (by show (p.get sg.gd env).map _ = _; rw [h]; rfl) q
theorem ev_cst {d : D} (q : Q (.frz, d) env) : Ok (ev sg cl (.cst d)) env Q := Ok.pure q
theorem ev_glo {x : Str} {d : D} (q : Q (.frz, d) env) : Ok (ev sg cl (.glo x d)) env Q := Ok.pure q
theorem ev_fz {i : Nat} {s : Sh} {d : D} (h : env[i]? = some (some (s, d))) (hb : s.isB = false) (hn : noB s = true) (q : Q (.frz, d) (env.set i (some (.frz, d)))) : Ok (ev sg cl (.fz i)) env Q := by
  refine Ok.bind (Ok.of (a := (s, d)) (e := env) ?_ ?_)
  · unfold getV
    rw [h]
  · show Ok (if s.isB = true then _ else if noB s = true then _ else _) env Q
    rw [hb, hn]
    show Ok (M.bind (setV i (some (.frz, d))) fun _ => M.pure (.frz, d)) env Q
    exact ⟨(.frz, d), env.set i (some (.frz, d)), rfl, q⟩
theorem ev_app1 {o : Op} {a : E} (h : Ok (ev sg cl a) env fun x e => ∃ r, sem1 o x = some r ∧ Q r e) : Ok (ev sg cl (.app o (.cons a .nil))) env Q := by
  refine Ok.bind (Ok.bind (h.mono fun x e ⟨r, h1, h2⟩ => Ok.bind (Ok.pure (Ok.pure (Ok.opt h1 h2)))))
theorem ev_app2 {o : Op} {a b : E} (h : Ok (ev sg cl a) env fun x e => Ok (ev sg cl b) e fun y e2 => ∃ r, sem2 o x y = some r ∧ Q r e2) : Ok (ev sg cl (.app o (.cons a (.cons b .nil)))) env Q := by
  refine Ok.bind (Ok.bind (h.mono fun x e h => Ok.bind (Ok.bind (h.mono fun y e2 ⟨r, h1, h2⟩ => Ok.bind (Ok.pure (Ok.pure (Ok.pure (Ok.opt h1 h2))))))))
theorem ev_and {a b : E} {k : Bool} (h : Ok (ev sg cl a) env fun x e => x.2 = .bl k ∧ if k = true then Ok (ev sg cl b) e (fun y e2 => ∃ z, (if b.place = true then share y else some y) = some z ∧ Q z e2) else Q (.frz, .bl false) e) : Ok (ev sg cl (.and a b)) env Q := by
  refine Ok.bind (h.mono fun x e ⟨h1, h2⟩ => Ok.bind (Ok.opt (a := k) (by unfold truth; rw [h1]) ?_))
  cases k with
  | true => exact Ok.bind (Ok.mono h2 fun y e2 ⟨z, h3, h4⟩ => Ok.opt h3 h4)
  | false => exact Ok.pure h2
theorem ev_or {a b : E} {k : Bool} (h : Ok (ev sg cl a) env fun x e => x.2 = .bl k ∧ if k = true then Q (.frz, .bl true) e else Ok (ev sg cl b) e (fun y e2 => ∃ z, (if b.place = true then share y else some y) = some z ∧ Q z e2)) : Ok (ev sg cl (.or a b)) env Q := by
  refine Ok.bind (h.mono fun x e ⟨h1, h2⟩ => Ok.bind (Ok.opt (a := k) (by unfold truth; rw [h1]) ?_))
  cases k with
  | false => exact Ok.bind (Ok.mono h2 fun y e2 ⟨z, h3, h4⟩ => Ok.opt h3 h4)
  | true => exact Ok.pure h2
theorem ev_not {a : E} {k : Bool} (h : Ok (ev sg cl a) env fun x e => x.2 = .bl k ∧ Q (.frz, .bl (!k)) e) : Ok (ev sg cl (.not a)) env Q :=
  Ok.bind (h.mono fun x e ⟨h1, h2⟩ => Ok.bind (Ok.opt (a := k) (by unfold truth; rw [h1]) (Ok.pure h2)))
end
/-! ### expressions that change nothing -/
section
variable {sg : Sig} {cl : Calls} {env : Env}
def Ev (sg : Sig) (cl : Calls) (env : Env) (e : E) (r : SD) : Prop := ev sg cl e env = some (.ok r env)
theorem Ev.ok {e : E} {r : SD} {Q : SD → Env → Prop} (h : Ev sg cl env e r) (q : Q r env) : Ok (ev sg cl e) env Q := ⟨r, env, h, q⟩
theorem Ev.pl {p : Pl} {x : SD} (h : p.get sg.gd env = some x) : Ev sg cl env (.pl p) x := by
  show (p.get sg.gd env).map _ = _
  rw [h]
  rfl
theorem Ev.cst {d : D} : Ev sg cl env (.cst d) (.frz, d) := rfl
theorem Ev.glo {x : Str} {d : D} : Ev sg cl env (.glo x d) (.frz, d) := rfl
theorem Ev.app1 {o : Op} {a : E} {x r : SD} (h : Ev sg cl env a x) (hs : sem1 o x = some r) : Ev sg cl env (.app o (.cons a .nil)) r := by
  obtain ⟨r', e, h1, rfl, rfl⟩ := ev_app1 (o := o) (Q := fun r' e => r' = r ∧ e = env) (h.ok ⟨r, hs, rfl, rfl⟩)
  exact h1
theorem Ev.app2 {o : Op} {a b : E} {x y r : SD} (h : Ev sg cl env a x) (h2 : Ev sg cl env b y) (hs : sem2 o x y = some r) : Ev sg cl env (.app o (.cons a (.cons b .nil))) r := by
  obtain ⟨r', e, h1, rfl, rfl⟩ := ev_app2 (o := o) (Q := fun r' e => r' = r ∧ e = env) (h.ok (h2.ok ⟨r, hs, rfl, rfl⟩))
  exact h1
theorem Ev.not {a : E} {s : Sh} {k : Bool} (h : Ev sg cl env a (s, .bl k)) : Ev sg cl env (.not a) (.frz, .bl (!k)) := by
  obtain ⟨r', e, h1, rfl, rfl⟩ := ev_not (k := k) (Q := fun r' e => r' = (.frz, .bl (!k)) ∧ e = env) (h.ok ⟨rfl, rfl, rfl⟩)
  exact h1
end
/-! ### statements -/
section
variable {sg : Sig} {cl : Calls} {env : Env}
/-- it goes on, or hands a value back -/
def Fin1 (N : Env → Prop) (R : SD → Env → Prop) : Fl → Env → Prop
  | .nx, e => N e
  | .rt r, e => R r e
  | _, _ => False
variable {N : Env → Prop} {R : SD → Env → Prop}
theorem st_asg {tg : Tg} {e : E} (h : Ok (ev sg cl e) env fun x e1 => ∃ y, keepK e x = some y ∧ Ok (asgT tg y) e1 fun _ e2 => N e2) : Ok (st sg cl (.asg tg e)) env (Fin1 N R) :=
  Ok.bind (h.mono fun x e1 ⟨y, h1, h2⟩ => Ok.bind (Ok.opt h1 (Ok.bind (h2.mono fun _ e2 h3 => Ok.pure h3))))
theorem st_set {i : Nat} {e : E} (h : Ok (ev sg cl e) env fun x e1 => ∃ y, keepK e x = some y ∧ N (e1.set i (some y))) : Ok (st sg cl (.asg (.nm i) e)) env (Fin1 N R) :=
  st_asg (h.mono fun x e1 ⟨y, h1, h2⟩ => ⟨y, h1, Ok.of rfl h2⟩)
theorem st_ife {c : E} {a b : Ss} {k : Bool} (h : Ok (ev sg cl c) env fun x e => x.2 = .bl k ∧ Ok (sts sg cl (if k = true then a else b)) e (Fin1 N R)) : Ok (st sg cl (.ife c a b)) env (Fin1 N R) :=
  Ok.bind (h.mono fun x e ⟨h1, h2⟩ => Ok.bind (Ok.opt (a := k) (by unfold truth; rw [h1]) (by cases k <;> exact h2)))
theorem st_ret {e : E} (h : Ok (ev sg cl e) env fun x e1 => ∃ y, DI.take e x = some y ∧ R y e1) : Ok (st sg cl (.ret e)) env (Fin1 N R) :=
  Ok.bind (h.mono fun x e1 ⟨y, h1, h2⟩ => Ok.bind (Ok.opt h1 (Ok.pure h2)))
theorem st_exp {e : E} (h : Ok (ev sg cl e) env fun _ e1 => N e1) : Ok (st sg cl (.exp e)) env (Fin1 N R) := Ok.bind (h.mono fun x e1 h1 => Ok.pure h1)
theorem ss_nil {N : Env → Prop} (h : N env) : Ok (sts sg cl .nil) env (Fin1 N R) := Ok.pure h
theorem ss_cons {s : S} {ss : Ss} (h : Ok (st sg cl s) env (Fin1 (fun e => Ok (sts sg cl ss) e (Fin1 N R)) R)) : Ok (sts sg cl (.cons s ss)) env (Fin1 N R) := by
  refine Ok.bind (h.mono fun f e hf => ?_)
  cases f with
  | nx => exact hf
  | rt r => exact Ok.pure hf
  | bk => exact hf.elim
  | ct => exact hf.elim
theorem st_augi {p : Pl} {k e : E} {o : Op} {y : SD} (hy : p.get sg.gd env = some y) (hc : (y.1.isC && y.1.kid.isF) = true) (h : Ok (ev sg cl k) env fun kd e1 => ∃ it, itemOf y kd.2 = some it ∧ (it.2.scal && kd.2.scal) = true ∧ Ok (ev sg cl e) e1 fun x e2 => ∃ r z z', sem o [it, x] = some r ∧ r.2.scal = true ∧
    itemSet y kd.2 r.2 = some z ∧ p.up sg.gd env z = some z' ∧ N (e2.set p.root (some z'))) : Ok (st sg cl (.augi p k o e)) env (Fin1 N R) := by
  have inner : Ok (M.bind (ev sg cl k) fun kd => M.bind (M.opt (itemOf y kd.2)) fun it => if (it.2.scal && kd.2.scal) = true then M.bind (ev sg cl e) fun x => M.bind (M.opt (sem o [it, x])) fun r => if r.2.scal = true then fun env2 => (itemSet y kd.2 r.2).bind fun z => (p.up sg.gd env z).map fun z' => Out.ok Fl.nx (env2.set p.root (some z')) else M.stuck else M.stuck) env (Fin1 N R) := by
    refine Ok.bind (h.mono fun kd e1 ⟨it, h2, h3, h⟩ => Ok.bind (Ok.opt h2 (Ok.ite h3 (Ok.bind (h.mono fun x e2 ⟨r, z, z', h5, h6, h7, h8, q⟩ => Ok.bind (Ok.opt h5 (Ok.ite h6 ⟨.nx, e2.set p.root (some z'), ?_, q⟩)))))))
    show (itemSet y kd.2 r.2).bind _ = _
    rw [h7]
    show (p.up sg.gd env z).map _ = _
    rw [h8]
    rfl
  obtain ⟨fl, e', h1, h2⟩ := inner
  refine ⟨fl, e', ?_, h2⟩
  show (p.get sg.gd env).bind _ = _
  rw [hy]
  show (if (y.1.isC && y.1.kid.isF) = true then _ else none) = _
  rw [if_pos hc]
  exact h1
theorem st_seti {p : Pl} {k e : E} (h : Ok (ev sg cl e) env fun x e1 => ∃ y x', p.get sg.gd e1 = some y ∧ keepT y.1.kid e x = some x' ∧ Ok (ev sg cl k) e1 fun kd e2 => ∃ z z', eqSh x'.1 y.1.kid = true ∧ itemSet y kd.2 x'.2 = some z ∧ p.up sg.gd e1 z = some z' ∧ N (e2.set p.root (some z'))) :
    Ok (st sg cl (.seti p k e)) env (Fin1 N R) := by
  refine Ok.bind (h.mono fun x e1 ⟨y, x', h2, h3, kd, e2, h4, z, z', h5, h6, h7, q⟩ => ⟨.nx, e2.set p.root (some z'), ?_, q⟩)
  show (p.get sg.gd e1).bind _ = _
  rw [h2]
  show (keepT y.1.kid e x).bind _ = _
  rw [h3]
  show M.bind (ev sg cl k) _ e1 = _
  unfold M.bind
  rw [h4]
  show (if eqSh x'.1 y.1.kid = true then _ else none) = _
  rw [if_pos h5]
  show (itemSet y kd.2 x'.2).bind _ = _
  rw [h6]
  show (p.up sg.gd e1 z).map _ = _
  rw [h7]
  rfl
end
/-- a def is called -/
theorem call_ok {P : Prog} {n f k : Nat} {body : Ss} {args : List SD} {Q : SD → List (Option SD) → Prop} (hd : P.defs f = some (k, body))
    (h : Ok (sts P.sg (callD P n) body) (args.map some ++ List.replicate (k - args.length) none) (Fin1 (fun e => Q (.frz, .non) (outsOf e 0 (P.sg.modes f))) fun r e => Q r (outsOf e 0 (P.sg.modes f)))) : ∃ r outs, callD P (n + 1) f args = some (.ok r outs) ∧ Q r outs := by
  obtain ⟨fl, e, h1, q⟩ := h
  unfold callD
  rw [hd]
  dsimp only
  rw [h1]
  cases fl with
  | nx => exact ⟨_, _, rfl, q⟩
  | rt r => exact ⟨_, _, rfl, q⟩
  | bk => exact q.elim
  | ct => exact q.elim
end DI.PL
/-! PL2: the bag. -/
namespace DI.PL
open PySem DI
structure Bag where
  a : Int
  b : Int
  c : Int
  cells : List Int
def Bag.d (g : Bag) : D := .lst [.int g.a, .int g.b, .int g.c, .lst (g.cells.map .int)]
def Bag.ok (g : Bag) : Prop := 0 ≤ g.a ∧ 0 ≤ g.c
abbrev bg (g : Bag) : SD := (.lst .frz, g.d)
theorem eqv_int (a b : Int) : eqvD (.int a) (.int b) = some (decide (a = b)) := by
  have h : PyData.eqv (.int a) (.int b) = decide (a = b) := by
    show (a == b) = decide (a = b)
    rw [Bool.eq_iff_iff]
    simp
  show (if (SeqAt.shaped (.int a) && SeqAt.shaped (.int b)) = true then some (PyData.eqv (.int a) (.int b)) else none) = _
  rw [h]
  rfl
theorem atI_nat {α : Type} {xs : List α} {j : Nat} {v : α} (h : xs[j]? = some v) : L2.atI xs (j : Int) = some v := L2.atI_nat h
theorem Fin1.mono {N N' : Env → Prop} {R R' : SD → Env → Prop} (h : ∀ e, N e → N' e) (h' : ∀ r e, R r e → R' r e) : ∀ f e, Fin1 N R f e → Fin1 N' R' f e
  | .nx, e, q => h e q
  | .rt r, e, q => h' r e q
  | .bk, _, q => q
  | .ct, _, q => q
theorem seq {sg : Sig} {cl : Calls} {env : Env} {s : S} {ss : Ss} {N : Env → Prop} {R : SD → Env → Prop} (M : Env → Prop) (h : Ok (st sg cl s) env (Fin1 M R)) (k : ∀ e, M e → Ok (sts sg cl ss) e (Fin1 N R)) : Ok (sts sg cl (.cons s ss)) env (Fin1 N R) :=
  ss_cons (h.mono fun f e q => Fin1.mono k (fun _ _ z => z) f e q)
theorem sem_eq {s t : Sh} {a b : D} : sem2 .eq (s, a) (t, b) = (eqvD a b).bind fun c => sc (.bl c) := by cases a <;> cases b <;> rfl
theorem eq_int {s t : Sh} {a b : Int} : sem2 .eq (s, .int a) (t, .int b) = some (.frz, .bl (decide (a = b))) := by
  rw [sem_eq, eqv_int]
  rfl
theorem mod_int {s t : Sh} {a b : Int} (h : 0 < b) : sem2 .mod (s, .int a) (t, .int b) = some (.frz, .int (a % b)) := if_pos h
theorem mul_int {s t : Sh} {a b : Int} (h : (small a || small b) = true) : sem2 .mul (s, .int a) (t, .int b) = some (.frz, .int (a * b)) := if_pos h
theorem fdiv_int {s t : Sh} {a b : Int} (h : 0 < b) (h2 : b < 2 ^ 200) : sem2 .fdiv (s, .int a) (t, .int b) = some (.frz, .int (a / b)) := by
  refine if_pos ?_
  rw [decide_eq_true h, Bool.true_and]
  refine decide_eq_true ?_
  have h3 : b.natAbs < 2 ^ 200 := by omega
  exact Nat.lt_of_lt_of_le h3 (Nat.pow_le_pow_right (by omega) (by omega))
theorem small_r {a b : Int} (h : small b = true) : (small a || small b) = true := by rw [h, Bool.or_true]
theorem small_of {a : Int} (h0 : 0 ≤ a) (h : a < 2 ^ 60) : small a = true := by
  unfold small
  rw [decide_eq_true (show -(2 ^ 64) < a by omega), decide_eq_true (show a < 2 ^ 64 by omega)]
  rfl
/-- the bag's slot, beside the rest -/
theorem bag_set0 {g : Bag} {v : Int} : itemSet (bg g) (.int 0) (.int v) = some (bg { g with a := v }) := rfl
theorem bag_set1 {g : Bag} {v : Int} : itemSet (bg g) (.int 1) (.int v) = some (bg { g with b := v }) := rfl
theorem bag_set2 {g : Bag} {v : Int} : itemSet (bg g) (.int 2) (.int v) = some (bg { g with c := v }) := rfl
theorem take_ok {P : Prog} {n : Nat} (hd : P.defs 1 = some (take_n, take_c)) (hm : P.sg.modes 1 = [.io, .bor]) {g : Bag} (hg : g.ok) {many : Int} (h0 : 0 < many) (h1 : many < 2 ^ 200) :
    ∃ (v : Int) (g' : Bag), callD P (n + 1) 1 [bg g, (.frz, .int many)] = some (.ok (.frz, .int v) [some (bg g'), none]) ∧ 0 ≤ v ∧ v < many ∧ g'.ok := by
  suffices h : ∃ r outs, callD P (n + 1) 1 [bg g, (.frz, .int many)] = some (.ok r outs) ∧ ∃ (v : Int) (g' : Bag), r = (.frz, .int v) ∧ outs = [some (bg g'), none] ∧ 0 ≤ v ∧ v < many ∧ g'.ok by
    obtain ⟨r, outs, hc, v, g', rfl, rfl, h2⟩ := h
    exact ⟨v, g', hc, h2⟩
  refine call_ok hd ?_
  rw [hm]
  generalize hM : ((.frz, .int many) : SD) = M
  -- a new cell
  refine seq (fun e => ∃ (g1 : Bag) (x : Option SD), g1.ok ∧ e = [some (bg g1), some M, none, none, x, none]) ?_ ?_
  · refine st_ife (k := decide (g.a = 0)) (ev_app2 (ev_pl rfl (ev_cst ⟨_, eq_int, rfl, ?_⟩)))
    by_cases ha : g.a = 0
    rotate_left
    · rw [decide_eq_false ha]
      exact ss_nil ⟨g, none, hg, rfl⟩
    rw [decide_eq_true ha]
    show Ok (sts P.sg (callD P n) _) [some (bg g), some M, none, none, none, none] _
    refine seq (fun e => e = [some (bg g), some M, none, none, some (.frz, .int 0), none]) (st_set (ev_cst ⟨_, rfl, rfl⟩)) ?_
    rintro _ rfl
    refine seq (fun e => ∃ z : Int, e = [some (bg g), some M, none, none, some (.frz, .int z), none]) ?_ ?_
    · refine st_ife (k := decide (g.c < (g.cells.map D.int).length)) (ev_app2 (ev_pl rfl (ev_app1 (ev_pl rfl ⟨_, rfl, _, rfl, rfl, ?_⟩))))
      by_cases hc : g.c < (g.cells.map D.int).length
      rotate_left
      · rw [decide_eq_false hc]
        exact ss_nil ⟨0, rfl⟩
      rw [decide_eq_true hc]
      obtain ⟨j, hj⟩ : ∃ j : Nat, g.c = j := ⟨g.c.toNat, by have := hg.2; omega⟩
      have hl : j < g.cells.length := by
        rw [hj, List.length_map] at hc
        omega
      have hat : L2.atI (g.cells.map D.int) g.c = some (.int g.cells[j]) := by
        rw [hj]
        exact atI_nat (by rw [List.getElem?_map, List.getElem?_eq_getElem hl]; rfl)
      refine seq (fun e => e = [some (bg g), some M, none, none, some (.frz, .int g.cells[j]), none]) (st_set (ev_app2 (ev_pl rfl (ev_pl rfl ⟨(.frz, .int g.cells[j]), ?_, _, rfl, rfl⟩)))) ?_
      · show ((atD (g.cells.map D.int) g.c).map fun d => (Sh.frz, d)).bind share = _
        rw [show atD (g.cells.map D.int) g.c = some (.int g.cells[j]) from hat]
        rfl
      · rintro _ rfl
        exact ss_nil ⟨_, rfl⟩
    · rintro _ ⟨z, rfl⟩
      refine seq (fun e => e = [some (bg { g with c := g.c + 1 }), some M, none, none, some (.frz, .int z), none]) (st_augi rfl rfl (ev_cst ⟨_, rfl, rfl, ev_cst ⟨_, _, _, rfl, rfl, bag_set2, rfl, rfl⟩⟩)) ?_
      rintro _ rfl
      refine seq (fun e => ∃ g1 : Bag, g1.ok ∧ e = [some (bg g1), some M, none, none, some (.frz, .int z), none]) ?_ ?_
      · refine st_ife (k := decide (1000000000000000000 ≤ z)) (ev_app2 (ev_pl rfl (ev_cst ⟨_, rfl, rfl, ?_⟩)))
        have g1ok : ({ g with c := g.c + 1 } : Bag).ok := ⟨hg.1, by have := hg.2; show 0 ≤ g.c + 1; omega⟩
        by_cases hz : 1000000000000000000 ≤ z
        · rw [decide_eq_true hz]
          refine seq (fun e => e = [some (bg { g with c := g.c + 1, a := z }), some M, none, none, some (.frz, .int z), none]) (st_seti (ev_fz rfl rfl rfl ⟨_, _, rfl, rfl, ev_cst ⟨_, _, rfl, bag_set0, rfl, rfl⟩⟩)) ?_
          rintro _ rfl
          exact ss_nil ⟨{ g with c := g.c + 1, a := z }, ⟨by show 0 ≤ z; omega, g1ok.2⟩, rfl⟩
        · rw [decide_eq_false hz]
          exact ss_nil ⟨_, g1ok, rfl⟩
      · rintro _ ⟨g1, k1, rfl⟩
        refine seq (fun e => ∃ b : Int, e = [some (bg { g1 with b := b }), some M, none, none, some (.frz, .int z), none]) ?_ ?_
        · have h : Ev P.sg (callD P n) [some (bg g1), some M, none, none, some (.frz, .int z), none] _ _ := Ev.app2 (o := .mod) (Ev.app2 (o := .add) (Ev.app2 (o := .add) (Ev.app2 (o := .mul) (Ev.pl (p := .ix (.var 0) (.cst (.int 1))) rfl) (Ev.cst (d := .int 48271)) (mul_int (small_r rfl)))
            (Ev.app2 (o := .mod) (Ev.pl (p := .var 4) rfl) (Ev.cst (d := .int 2147483647)) (mod_int (by decide))) rfl) (Ev.app2 (o := .mul) (Ev.cst (d := .int 7919)) (Ev.pl (p := .ix (.var 0) (.cst (.int 2))) rfl) (mul_int rfl)) rfl) (Ev.cst (d := .int 2147483647)) (mod_int (by decide))
          exact st_seti (h.ok ⟨_, _, rfl, rfl, ev_cst ⟨_, _, rfl, bag_set1, rfl, _, rfl⟩⟩)
        · rintro _ ⟨b, rfl⟩
          exact ss_nil ⟨{ g1 with b := b }, _, k1, rfl⟩
  rintro _ ⟨g1, x, k1, rfl⟩
  have hM1 : M.2 = .int many := by rw [← hM]
  have hM2 : M = (.frz, .int many) := hM.symm
  subst hM2
  refine seq (fun e => e = [some (bg g1), some (.frz, .int many), none, none, x, none]) (st_ife (k := decide (0 < g1.a)) (ev_app2 (ev_pl rfl (ev_cst ⟨_, rfl, rfl, ?_⟩)))) ?_
  · by_cases ha : 0 < g1.a
    · rw [decide_eq_true ha]
      refine seq (fun e => e = [some (bg g1), some (.frz, .int many), none, none, x, some (.frz, .int (g1.a % many))]) (st_set (ev_app2 (ev_pl rfl (ev_pl rfl ⟨_, mod_int h0, _, rfl, rfl⟩)))) ?_
      rintro _ rfl
      refine seq (fun e => e = [some (bg { g1 with a := g1.a / many }), some (.frz, .int many), none, none, x, some (.frz, .int (g1.a % many))]) (st_seti (ev_app2 (ev_pl rfl (ev_pl rfl ⟨_, fdiv_int h0 h1, _, _, rfl, rfl, ev_cst ⟨_, _, rfl, bag_set0, rfl, rfl⟩⟩)))) ?_
      rintro _ rfl
      refine ss_cons (st_ret (ev_fz rfl rfl rfl ⟨_, rfl, _, _, rfl, rfl, Int.emod_nonneg _ (by omega), Int.emod_lt_of_pos _ h0, ⟨?_, k1.2⟩⟩))
      exact Int.ediv_nonneg k1.1 (by omega)
    · rw [decide_eq_false ha]
      exact ss_nil rfl
  rintro _ rfl
  generalize hf : (g1.b + 1) * 39373 % 1000000007 = first
  have f0 : 0 ≤ first ∧ first < 1000000007 := by
    rw [← hf]
    exact ⟨Int.emod_nonneg _ (by decide), Int.emod_lt_of_pos _ (by decide)⟩
  refine seq (fun e => e = [some (bg g1), some (.frz, .int many), some (.frz, .int first), none, x, none]) ?_ ?_
  · have h : Ev P.sg (callD P n) [some (bg g1), some (.frz, .int many), none, none, x, none] _ _ := Ev.app2 (o := .mod) (Ev.app2 (o := .mul) (Ev.app2 (o := .add) (Ev.pl (p := .ix (.var 0) (.cst (.int 1))) rfl) (Ev.cst (d := .int 1)) rfl) (Ev.cst (d := .int 39373)) (mul_int (small_r rfl))) (Ev.cst (d := .int 1000000007)) (mod_int (by decide))
    rw [← hf]
    exact st_set (h.ok ⟨_, rfl, rfl⟩)
  rintro _ rfl
  have sf : (small first || small first) = true := small_r (small_of f0.1 (by omega))
  refine seq (fun e => ∃ second : Int, 0 ≤ second ∧ e = [some (bg g1), some (.frz, .int many), some (.frz, .int first), some (.frz, .int second), x, none]) ?_ ?_
  · have h : Ev P.sg (callD P n) [some (bg g1), some (.frz, .int many), some (.frz, .int first), none, x, none] _ _ := Ev.app2 (o := .mod) (Ev.app2 (o := .mul) (Ev.app2 (o := .mod) (Ev.app2 (o := .mul) (Ev.pl (p := .var 2) rfl) (Ev.pl (p := .var 2) rfl) (mul_int sf)) (Ev.cst (d := .int 998244353)) (mod_int (by decide))) (Ev.cst (d := .int 30011)) (mul_int (small_r rfl))) (Ev.cst (d := .int 998244353)) (mod_int (by decide))
    exact st_set (h.ok ⟨_, rfl, _, Int.emod_nonneg _ (by decide), rfl⟩)
  rintro _ ⟨second, s0, rfl⟩
  have fin : ∀ z : Int, ∃ (v : Int) (g' : Bag), ((.frz, .int (z % many)) : SD) = (.frz, .int v) ∧ outsOf [some (bg g1), some (.frz, .int many), some (.frz, .int first), some (.frz, .int second), x, none] 0 [.io, .bor] = [some (bg g'), none] ∧ 0 ≤ v ∧ v < many ∧ g'.ok :=
    fun z => ⟨_, g1, rfl, rfl, Int.emod_nonneg _ (by omega), Int.emod_lt_of_pos _ h0, k1⟩
  refine seq (fun e => e = [some (bg g1), some (.frz, .int many), some (.frz, .int first), some (.frz, .int second), x, none]) (st_ife (k := decide (1000000 < many)) (ev_app2 (ev_pl rfl (ev_cst ⟨_, rfl, rfl, ?_⟩)))) ?_
  · by_cases hb : 1000000 < many
    · rw [decide_eq_true hb]
      have h : Ev P.sg (callD P n) [some (bg g1), some (.frz, .int many), some (.frz, .int first), some (.frz, .int second), x, none] _ _ := Ev.app2 (o := .mod) (Ev.app2 (o := .add) (Ev.app2 (o := .mul) (Ev.pl (p := .var 3) rfl) (Ev.cst (d := .int 1000000007)) (mul_int (small_r rfl))) (Ev.pl (p := .var 2) rfl) rfl) (Ev.pl (p := .var 1) rfl) (mod_int h0)
      exact ss_cons (st_ret (h.ok ⟨_, rfl, fin _⟩))
    · rw [decide_eq_false hb]
      exact ss_nil rfl
  rintro _ rfl
  have h : Ev P.sg (callD P n) [some (bg g1), some (.frz, .int many), some (.frz, .int first), some (.frz, .int second), x, none] _ _ := Ev.app2 (o := .mod) (Ev.app2 (o := .fdiv) (Ev.pl (p := .var 3) rfl) (Ev.cst (d := .int 7)) (fdiv_int (by decide) (by decide))) (Ev.pl (p := .var 1) rfl) (mod_int h0)
  exact ss_cons (st_ret (h.ok ⟨_, rfl, fin _⟩))
end DI.PL
/-! PL3: loops, comprehensions, calls. -/
namespace DI.PL
open PySem DI
section
variable {sg : Sig} {cl : Calls} {env : Env}
theorem for_ok {tg : Tg} {body : M Fl} {R : SD → Env → Prop} (I : List SD → Env → Prop) (step : ∀ x xs e, I (x :: xs) e → Ok (asgT tg x) e fun _ e1 => Ok body e1 (Fin1 (I xs) R)) : ∀ xs e, I xs e → Ok (forD tg body xs) e (Fin1 (I []) R)
  | [], e, h => Ok.pure h
  | x :: xs, e, h => by
    refine Ok.bind ((step x xs e h).mono fun _ e1 h1 => Ok.bind (h1.mono fun f e2 h2 => ?_))
    cases f with
    | nx => exact for_ok I step xs e2 h2
    | rt r => exact Ok.pure h2
    | bk => exact h2.elim
    | ct => exact h2.elim
theorem st_for {tg : Tg} {it : It} {body : Ss} {N : Env → Prop} {R : SD → Env → Prop} (I : List SD → Env → Prop) (h : Ok (its sg cl it) env I) (step : ∀ x xs e, I (x :: xs) e → Ok (asgT tg x) e fun _ e1 => Ok (sts sg cl body) e1 (Fin1 (I xs) R)) (fin : ∀ e, I [] e → N e) : Ok (st sg cl (.for tg it body)) env (Fin1 N R) :=
  Ok.bind (h.mono fun xs e h1 => (for_ok I step xs e h1).mono fun f e2 q => Fin1.mono fin (fun _ _ z => z) f e2 q)
/-! ### wiped slots -/
theorem fold_len {f : Nat → Option SD} : ∀ (own : List Nat) (e : Env), (own.foldl (fun e' i => e'.set i (f i)) e).length = e.length
  | [], _ => rfl
  | v :: vs, e => by
    rw [List.foldl_cons, fold_len vs, List.length_set]
theorem fold_get {f : Nat → Option SD} (i : Nat) : ∀ (own : List Nat) (e : Env), (own.foldl (fun e' i => e'.set i (f i)) e)[i]? = if i ∈ own then (e[i]?).map (fun _ => f i) else e[i]?
  | [], _ => by simp
  | v :: vs, e => by
    rw [List.foldl_cons, fold_get i vs]
    by_cases h : v = i
    · subst h
      rw [if_pos (List.mem_cons_self), List.getElem?_set, if_pos rfl]
      by_cases hl : v < e.length
      · rw [if_pos hl, List.getElem?_eq_getElem hl]
        split <;> rfl
      · rw [if_neg hl, List.getElem?_eq_none (by omega)]
        split <;> rfl
    · rw [List.getElem?_set_ne h]
      by_cases hm : i ∈ vs
      · rw [if_pos hm, if_pos (List.mem_cons_of_mem _ hm)]
      · rw [if_neg hm, if_neg fun z => (List.mem_cons.mp z).elim (fun e => h e.symm) hm]
theorem back_same {own : List Nat} {e env0 : Env} (h : wipeE own e = wipeE own env0) : backE own env0 e = env0 := by
  have hl : e.length = env0.length := by
    have := congrArg List.length h
    unfold wipeE at this
    rw [fold_len (f := fun _ => none), fold_len (f := fun _ => none)] at this
    exact this
  refine List.ext_getElem? fun i => ?_
  unfold backE
  rw [fold_get (f := fun i => (env0[i]?).getD none)]
  by_cases hm : i ∈ own
  · rw [if_pos hm]
    by_cases hi : i < env0.length
    · rw [List.getElem?_eq_getElem hi, List.getElem?_eq_getElem (by omega)]
      rfl
    · rw [List.getElem?_eq_none (by omega), List.getElem?_eq_none (by omega)]
      rfl
  · rw [if_neg hm]
    have := congrArg (fun l => l[i]?) h
    unfold wipeE at this
    rw [fold_get (f := fun _ => none), fold_get (f := fun _ => none), if_neg hm, if_neg hm] at this
    exact this
theorem comp_ok {own : List Nat} {tg : Tg} {c : M Bool} {elt : M D} (I : List SD → List D → Env → Prop)
    (step : ∀ x xs done e, I (x :: xs) done e → Ok (asgT tg x) (wipeE own e) fun _ e1 => Ok c e1 fun b e2 => if b = true then Ok elt e2 fun d e3 => I xs (done ++ [d]) e3 else I xs done e2) :
    ∀ xs done e, I xs done e → Ok (compD own tg c elt xs) e fun ds e2 => I [] (done ++ ds) e2
  | [], done, e, h => Ok.pure (by rw [List.append_nil]; exact h)
  | x :: xs, done, e, h => by
    refine Ok.bind (Ok.of (a := ()) (e := wipeE own e) rfl (Ok.bind ((step x xs done e h).mono fun _ e1 h1 => Ok.bind (h1.mono fun b e2 h2 => ?_))))
    cases b with
    | true => exact Ok.bind (Ok.mono h2 fun d e3 h3 => Ok.bind ((comp_ok I step xs (done ++ [d]) e3 h3).mono fun ds e4 h4 => Ok.pure (by simpa using h4)))
    | false => exact comp_ok I step xs done e2 h2
theorem ev_lc {own : List Nat} {tg : Tg} {it : It} {ifs : Es} {elt : E} {s : Sh} {Q : SD → Env → Prop} (I : Env → List SD → List D → Env → Prop) (h : Ok (its sg cl it) env fun xs e1 => I e1 xs [] e1)
    (step : ∀ e1 x xs done e, I e1 (x :: xs) done e → Ok (asgT tg x) (wipeE own e) fun _ e2 => Ok (cond sg cl ifs) e2 fun b e3 => if b = true then Ok (ev sg cl elt) e3 fun r e4 => ∃ q, takeAs s elt r = some q ∧ I e1 xs (done ++ [q.2]) e4 else I e1 xs done e3)
    (fin : ∀ e1 ds e2, I e1 [] ds e2 → ds.length ≤ sizeLine ∧ Q (.lst s, .lst ds) (backE own e1 e2)) : Ok (ev sg cl (.lc own tg it ifs elt s)) env Q := by
  refine Ok.bind (h.mono fun xs e1 h1 => Ok.bind ?_)
  obtain ⟨ds, e2, h2, h3⟩ := comp_ok (elt := M.bind (ev sg cl elt) fun r => M.bind (M.opt (takeAs s elt r)) fun q => M.pure q.2) (c := cond sg cl ifs) (own := own) (tg := tg) (I e1) (fun x xs done e hI => (step e1 x xs done e hI).mono fun _ e2 h2 => h2.mono fun b e3 h3 => by
    cases b with
    | true => exact Ok.bind (Ok.mono h3 fun r e4 ⟨q, hq, hI⟩ => Ok.bind (Ok.opt hq (Ok.pure hI)))
    | false => exact h3) xs [] e1 h1
  rw [List.nil_append] at h3
  obtain ⟨f1, f2⟩ := fin e1 ds e2 h3
  refine ⟨ds, backE own e1 e2, ?_, ?_⟩
  · unfold hide
    rw [h2]
  · show Ok (if ds.length ≤ sizeLine then _ else _) _ _
    rw [if_pos f1]
    exact Ok.pure f2
/-- .. that changes nothing, and takes each thing by itself -/
theorem lc_pure {own : List Nat} {tg : Tg} {it : It} {ifs : Es} {elt : E} {s : Sh} {xs : List SD} (p : SD → Bool) (f : SD → D) (h : its sg cl it env = some (.ok xs env)) (hl : xs.length ≤ sizeLine)
    (step : ∀ x ∈ xs, ∀ e, wipeE own e = wipeE own env → Ok (asgT tg x) (wipeE own e) fun _ e2 => Ok (cond sg cl ifs) e2 fun b e3 => b = p x ∧ wipeE own e3 = wipeE own env ∧ (p x = true → Ok (ev sg cl elt) e3 fun r e4 => ∃ q, takeAs s elt r = some q ∧ q.2 = f x ∧ wipeE own e4 = wipeE own env)) :
    Ev sg cl env (.lc own tg it ifs elt s) (.lst s, .lst ((xs.filter p).map f)) := by
  have := ev_lc (env := env) (sg := sg) (cl := cl) (own := own) (tg := tg) (it := it) (ifs := ifs) (elt := elt) (s := s) (Q := fun r e => r = (.lst s, .lst ((xs.filter p).map f)) ∧ e = env)
    (fun e1 rem done e => e1 = env ∧ wipeE own e = wipeE own env ∧ (∀ x ∈ rem, x ∈ xs) ∧ done ++ (rem.filter p).map f = (xs.filter p).map f) (Ok.of h ⟨rfl, rfl, fun x hx => hx, rfl⟩)
    (fun e1 x rem done e ⟨h1, h2, h3, h4⟩ => (step x (h3 x (.head _)) e h2).mono fun _ e2 q => q.mono fun b e3 ⟨q1, q2, q3⟩ => by
      subst q1
      cases hp : p x with
      | true =>
        rw [if_pos rfl]
        refine (q3 hp).mono fun r e4 ⟨z, z1, z2, z3⟩ => ⟨z, z1, h1, z3, fun y hy => h3 y (.tail _ hy), ?_⟩
        rw [← h4, List.filter_cons, if_pos hp, List.map_cons, z2, List.append_assoc]
        rfl
      | false =>
        rw [if_neg (by simp)]
        refine ⟨h1, q2, fun y hy => h3 y (.tail _ hy), ?_⟩
        rw [← h4, List.filter_cons, if_neg (by rw [hp]; simp)])
    (fun e1 ds e2 ⟨h1, h2, h3, h4⟩ => by
      subst h1
      have e5 : ds = (xs.filter p).map f := by simpa using h4
      refine ⟨?_, by rw [e5], back_same h2⟩
      rw [e5, List.length_map]
      exact Nat.le_trans (List.length_filter_le ..) hl)
  obtain ⟨r, e, h1, rfl, rfl⟩ := this
  exact h1
/-! ### calls -/
theorem evC_nil {Q : List CA → Env → Prop} (q : Q [] env) : Ok (evC sg cl [] .nil) env Q := Ok.pure q
theorem evC_io {ms : List Md} {i : Nat} {es : Es} {x : SD} {Q : List CA → Env → Prop} (hx : env[i]? = some (some x)) (h : Ok (evC sg cl ms es) env fun cas e => Q (.io i :: cas) e) : Ok (evC sg cl (.io :: ms) (.cons (.pl (.var i)) es)) env Q := by
  refine Ok.bind (Ok.of (a := x) (e := env) ?_ (Ok.bind (h.mono fun cas e q => Ok.pure q)))
  unfold getV
  rw [hx]
theorem evC_val {m : Md} {ms : List Md} {e : E} {es : Es} {Q : List CA → Env → Prop} (hm : (match m with | .io => false | _ => true) = true) (h : Ok (ev sg cl e) env fun x e1 => ∃ ca, argAs e m x = some ca ∧ Ok (evC sg cl ms es) e1 fun cas e2 => Q (ca :: cas) e2) : Ok (evC sg cl (m :: ms) (.cons e es)) env Q := by
  have h' : Ok (M.bind (ev sg cl e) fun x => M.bind (M.opt (argAs e m x)) fun ca => M.bind (evC sg cl ms es) fun cas => M.pure (ca :: cas)) env Q := Ok.bind (h.mono fun x e1 ⟨ca, h1, h2⟩ => Ok.bind (Ok.opt h1 (Ok.bind (h2.mono fun cas e2 q => Ok.pure q))))
  cases m <;> first | exact h' | cases hm
theorem ev_call {f : Nat} {as : Es} {ms : List Md} {Q : SD → Env → Prop} (hm : sg.modes f = ms) (h : Ok (evC sg cl ms as) env fun cas e => ∃ args r outs e2, ioGets e cas = some args ∧ cl f args = some (.ok r outs) ∧ noB r.1 = true ∧ ioBack e cas outs = some e2 ∧ Q r e2) : Ok (ev sg cl (.call f as)) env Q := by
  subst hm
  refine Ok.bind (h.mono fun cas e ⟨args, r, outs, e2, h1, h2, h3, h4, q⟩ => ⟨r, e2, ?_, q⟩)
  unfold doCall
  rw [h1]
  show (match cl f args with
    | some (.ok r outs) => if noB r.1 = true then (ioBack e cas outs).map fun e => Out.ok r e else none
    | some (.ex c fs outs) => (ioBack e cas outs).map fun e => Out.ex c fs e
    | none => none) = _
  rw [h2]
  show (if noB r.1 = true then _ else none) = _
  rw [if_pos h3, h4]
  rfl
end
structure Std (P : Prog) : Prop where
  d1 : P.defs 1 = some (take_n, take_c)
  m1 : P.sg.modes 1 = [.io, .bor]
  d2 : P.defs 2 = some (bag_n, bag_c)
  m2 : P.sg.modes 2 = [.bor]
  d3 : P.defs 3 = some (names_n, names_c)
  m3 : P.sg.modes 3 = [.io, .bor]
  d4 : P.defs 4 = some (mixed_n, mixed_c)
  m4 : P.sg.modes 4 = [.io, .frz]
  d5 : P.defs 5 = some (crew_n, crew_c)
  m5 : P.sg.modes 5 = [.io, .frz, .bor]
  d6 : P.defs 6 = some (parts_n, parts_c)
  m6 : P.sg.modes 6 = [.io, .bor, .bor]
  d7 : P.defs 7 = some (sized_n, sized_c)
  m7 : P.sg.modes 7 = [.io]
variable {P : Prog} {n : Nat} {env : Env}
/-- a number is taken -/
theorem ev_take (S : Std P) {i : Nat} {e : E} {g : Bag} {s : Sh} {many : Int} {Q : SD → Env → Prop} (hi : env[i]? = some (some (bg g))) (hg : g.ok) (he : Ev P.sg (callD P (n + 1)) env e (s, .int many)) (h0 : 0 < many) (h1 : many < 2 ^ 200)
    (q : ∀ (v : Int) (g' : Bag), 0 ≤ v → v < many → g'.ok → Q (.frz, .int v) (env.set i (some (bg g')))) : Ok (ev P.sg (callD P (n + 1)) (.call 1 (.cons (.pl (.var i)) (.cons e .nil)))) env Q := by
  obtain ⟨v, g', hc, v0, v1, g1⟩ := take_ok (n := n) S.d1 S.m1 hg h0 h1
  refine ev_call S.m1 (evC_io hi (evC_val rfl (he.ok ⟨.val (.frz, .int many), rfl, evC_nil ⟨[bg g, (.frz, .int many)], (.frz, .int v), [some (bg g'), none], env.set i (some (bg g')), ?_, hc, rfl, rfl, q v g' v0 v1 g1⟩⟩)))
  have hio : ioGet env (.io i) = some (bg g) := by
    show (match env[i]? with
      | some (some x) => if x.1.given = true then some x else none
      | _ => none) = _
    rw [hi]
    rfl
  show (ioGet env (.io i)).bind _ = _
  rw [hio]
  rfl
end DI.PL
/-! PL4: the bag's start; a list put into another order. -/
namespace DI.PL
open PySem DI
section
variable {sg : Sig} {cl : Calls} {env : Env}
theorem evG_nil {kp : E → SD → Option SD} {Q : List SD → Env → Prop} (q : Q [] env) : Ok (evG sg cl kp .nil) env Q := Ok.pure q
theorem evG_cons {kp : E → SD → Option SD} {e : E} {es : Es} {Q : List SD → Env → Prop} (h : Ok (ev sg cl e) env fun x e1 => ∃ y, kp e x = some y ∧ Ok (evG sg cl kp es) e1 fun xs e2 => Q (y :: xs) e2) : Ok (evG sg cl kp (.cons e es)) env Q :=
  Ok.bind (h.mono fun x e1 ⟨y, h1, h2⟩ => Ok.bind (Ok.opt h1 (Ok.bind (h2.mono fun xs e2 q => Ok.pure q))))
theorem ev_lst {s : Sh} {as : Es} {Q : SD → Env → Prop} (h : Ok (evG sg cl (takeAs s) as) env fun xs e => Q (.lst s, .lst (xs.map (·.2))) e) : Ok (ev sg cl (.lst s as)) env Q := Ok.bind (h.mono fun xs e q => Ok.pure q)
theorem ev_tup {as : Es} {Q : SD → Env → Prop} (h : Ok (evG sg cl DI.take as) env fun xs e => Q (if xs.all (fun x => x.1.isF) = true then (.frz, .tup (xs.map (·.2))) else (.tup (xs.map (·.1)), .tup (xs.map (·.2)))) e) : Ok (ev sg cl (.tup as)) env Q := Ok.bind (h.mono fun xs e q => Ok.pure q)
theorem ev_mut {m : Mu} {p : Pl} {as : Es} {y : SD} {Q : SD → Env → Prop} (hy : p.get sg.gd env = some y) (hc : contOk m y.2 = true) (h : Ok (evG sg cl (mutKp m y) as) env fun xs e2 => ∃ r z z', mutS m y xs = some (r, z) ∧ p.up sg.gd env z = some z' ∧ Q r (e2.set p.root (some z'))) : Ok (ev sg cl (.mut m p as)) env Q := by
  have inner : Ok (M.bind (evG sg cl (mutKp m y) as) (fun xs => fun env2 => (mutS m y xs).bind fun (r, z) => (p.up sg.gd env z).map fun z' => Out.ok r (env2.set p.root (some z')))) env Q :=
    Ok.bind (h.mono fun xs e2 ⟨r, z, z', h1, h2, q⟩ => ⟨r, e2.set p.root (some z'), by
      show (mutS m y xs).bind _ = _
      rw [h1]
      show (p.up sg.gd env z).map _ = _
      rw [h2]
      rfl, q⟩)
  obtain ⟨a, e, h1, h2⟩ := inner
  refine ⟨a, e, ?_, h2⟩
  show (p.get sg.gd env).bind _ = _
  rw [hy]
  show (if contOk m y.2 = true then _ else none) = _
  rw [if_pos hc]
  exact h1
theorem its_e {x : E} {Q : List SD → Env → Prop} (h : Ok (ev sg cl x) env fun r e => ∃ xs, itemsOf x.place r = some xs ∧ Q xs e) : Ok (its sg cl (.e x)) env Q := Ok.bind (h.mono fun r e ⟨xs, h1, q⟩ => Ok.opt h1 q)
theorem keepT_frz {i : Nat} {d : D} : keepT .frz (.fz i) (.frz, d) = some (.frz, d) := by
  unfold keepT
  split
  · rfl
  · rfl
end
variable {P : Prog} {n : Nat}
theorem bag_ok (S : Std P) {s0 : Sh} (ns : List Int) (hl : ns.length ≤ 63) : ∃ g : Bag, g.ok ∧ callD P (n + 1) 2 [(s0, .scr ns)] = some (.ok (bg g) [none]) := by
  suffices h : ∃ r outs, callD P (n + 1) 2 [(s0, .scr ns)] = some (.ok r outs) ∧ ∃ g : Bag, g.ok ∧ r = bg g ∧ outs = [none] by
    obtain ⟨r, outs, hc, g, hg, rfl, rfl⟩ := h
    exact ⟨g, hg, hc⟩
  refine call_ok S.d2 ?_
  rw [S.m2]
  have e0 : Ok (sts P.sg (callD P n) bag_c) [some (s0, .scr ns), none] (Fin1 (fun e => False) fun r e => ∃ g : Bag, g.ok ∧ r = bg g ∧ outsOf e 0 [.bor] = [none]) := by
    generalize hcs : (cut ns none (some 63)).map (fun a : Int => if a < 0 then -a else a) = cells
    have hcl : (cut ns none (some 63)).length ≤ 63 := by
      unfold cut
      rw [List.length_take, List.length_drop]
      omega
    have hlc : Ev P.sg (callD P n) [some (s0, .scr ns), none] (.lc [1] (.nm 1) (.e (.app (.sl false true) (.cons (.pl (.var 0)) (.cons (.cst (.int (63))) .nil)))) .nil (.app .abs (.cons (.pl (.var 1)) .nil)) .frz) (.lst .frz, .lst (cells.map .int)) := by
      have := lc_pure (sg := P.sg) (cl := callD P n) (env := [some (s0, .scr ns), none]) (own := [1]) (tg := .nm 1) (it := .e (.app (.sl false true) (.cons (.pl (.var 0)) (.cons (.cst (.int (63))) .nil)))) (ifs := .nil) (elt := .app .abs (.cons (.pl (.var 1)) .nil)) (s := .frz)
        (xs := ((cut ns none (some 63)).map .int).map fun d => (.frz, d)) (fun _ => true) (fun x => match x.2 with | .int a => .int (if a < 0 then -a else a) | _ => .non) ?_ ?_ ?_
      · rw [← hcs]
        have e : ((((cut ns none (some 63)).map D.int).map fun d => (Sh.frz, d)).filter fun _ => true).map (fun x => match x.2 with | .int a => D.int (if a < 0 then -a else a) | _ => .non) = ((cut ns none (some 63)).map (fun a : Int => if a < 0 then -a else a)).map D.int := by
          rw [List.filter_eq_self.mpr (fun _ _ => rfl), List.map_map, List.map_map, List.map_map]
          rfl
        rw [← e]
        exact this
      · obtain ⟨xs, e, h1, rfl, rfl⟩ := its_e (sg := P.sg) (cl := callD P n) (env := [some (s0, .scr ns), none]) (x := .app (.sl false true) (.cons (.pl (.var 0)) (.cons (.cst (.int (63))) .nil))) (Q := fun xs e => xs = ((cut ns none (some 63)).map D.int).map (fun d => (Sh.frz, d)) ∧ e = [some (s0, .scr ns), none])
          ((Ev.app2 (Ev.pl rfl) Ev.cst rfl).ok ⟨_, rfl, rfl, rfl⟩)
        exact h1
      · rw [List.length_map, List.length_map, sizeLine_eq]
        omega
      · intro x hx e he
        obtain ⟨y, hy, rfl⟩ := List.mem_map.mp hx
        obtain ⟨a, _, rfl⟩ := List.mem_map.mp hy
        rw [he]
        refine Ok.of (a := ()) (e := [some (s0, .scr ns), some (.frz, .int a)]) rfl (Ok.of (a := true) (e := [some (s0, .scr ns), some (.frz, .int a)]) rfl ⟨rfl, rfl, fun _ => ?_⟩)
        exact (Ev.app1 (Ev.pl rfl) rfl).ok ⟨_, rfl, rfl, rfl⟩
    refine ss_cons (st_ret (ev_lst (evG_cons (ev_cst ⟨_, rfl, evG_cons (ev_cst ⟨_, rfl, evG_cons (ev_cst ⟨_, rfl, evG_cons (hlc.ok ⟨(.frz, .lst (cells.map .int)), rfl, evG_nil ⟨_, rfl, ⟨0, 1234567891, 0, cells⟩, ⟨Int.le_refl _, Int.le_refl _⟩, rfl, rfl⟩⟩)⟩)⟩)⟩))))
  exact e0.mono fun f e q => Fin1.mono (fun _ z => z.elim) (fun _ _ z => z) f e q
/-- the same things, in some order -/
theorem mixed_ok (S : Std P) {g : Bag} (hg : g.ok) (ds : List D) (hl : ds.length ≤ 1000) : ∃ (g' : Bag) (es : List D), g'.ok ∧ es.Perm ds ∧ callD P (n + 2) 4 [bg g, (.frz, .lst ds)] = some (.ok (.frz, .lst es) [some (bg g'), none]) := by
  suffices h : ∃ r outs, callD P (n + 2) 4 [bg g, (.frz, .lst ds)] = some (.ok r outs) ∧ ∃ (g' : Bag) (es : List D), g'.ok ∧ es.Perm ds ∧ r = (.frz, .lst es) ∧ outs = [some (bg g'), none] by
    obtain ⟨r, outs, hc, g', es, h1, h2, rfl, rfl⟩ := h
    exact ⟨g', es, h1, h2, hc⟩
  refine call_ok S.d4 ?_
  rw [S.m4]
  show Ok (sts P.sg (callD P (n + 1)) mixed_c) [some (bg g), some (.frz, .lst ds), none, none] _
  refine seq (fun e => e = [some (bg g), some (.frz, .lst ds), some (.lst .frz, .lst []), none]) (st_set (ev_lst (evG_nil ⟨_, rfl, rfl⟩))) ?_
  rintro _ rfl
  refine seq (fun e => ∃ (g' : Bag) (es : List D) (x : Option SD), g'.ok ∧ es.Perm ds ∧ e = [some (bg g'), some (.frz, .lst ds), some (.lst .frz, .lst es), x]) ?_ ?_
  · refine st_for (fun rem e => ∃ (g' : Bag) (pre rest es : List D) (x : Option SD), g'.ok ∧ es.Perm pre ∧ pre ++ rest = ds ∧ rem = rest.map (fun d => (.frz, d)) ∧ e = [some (bg g'), some (.frz, .lst ds), some (.lst .frz, .lst es), x]) (its_e (ev_pl rfl ⟨_, rfl, g, [], ds, [], none, hg, .nil, rfl, rfl, rfl⟩)) ?_ ?_
    · rintro x xs e ⟨g', pre, rest, es, y, k1, k2, k3, k4, rfl⟩
      cases rest with
      | nil => cases k4
      | cons d rest =>
        cases k4
        refine Ok.of (a := ()) (e := [some (bg g'), some (.frz, .lst ds), some (.lst .frz, .lst es), some (.frz, d)]) rfl ?_
        have hle : es.length < 1000 := by
          have h1 := k2.length_eq
          have h2 := congrArg List.length k3
          rw [List.length_append, List.length_cons] at h2
          omega
        have hlen : Ev P.sg (callD P (n + 1)) [some (bg g'), some (.frz, .lst ds), some (.lst .frz, .lst es), some (.frz, d)] (.app .add (.cons (.app .len (.cons (.pl (.var 2)) .nil)) (.cons (.cst (.int (1))) .nil))) (.frz, .int (es.length + 1)) := Ev.app2 (Ev.app1 (Ev.pl rfl) rfl) Ev.cst rfl
        refine ss_cons (st_exp (ev_mut rfl rfl (evG_cons (ev_take S rfl k1 hlen (by omega) (by omega) fun v g2 v0 v1 g2ok => ⟨_, rfl, evG_cons (ev_fz rfl rfl rfl ⟨_, keepT_frz, evG_nil ⟨(.frz, .non), (.lst .frz, .lst (es.take v.toNat ++ d :: es.drop v.toNat)), _, ?_, rfl, ?_⟩⟩)⟩))))
        · refine if_pos ?_
          rw [sizeLine_eq]
          simp only [Bool.and_eq_true, decide_eq_true_eq]
          exact ⟨⟨⟨rfl, by omega⟩, v0⟩, by omega⟩
        · refine ss_nil ⟨g2, pre ++ [d], rest, es.take v.toNat ++ d :: es.drop v.toNat, _, g2ok, ?_, by rw [List.append_assoc]; exact k3, rfl, rfl⟩
          refine (List.perm_middle).trans ?_
          rw [List.take_append_drop]
          exact (k2.cons d).trans (List.perm_append_singleton d pre).symm
    · rintro e ⟨g', pre, rest, es, x, k1, k2, k3, k4, rfl⟩
      cases rest with
      | nil =>
        rw [List.append_nil] at k3
        subst k3
        exact ⟨g', es, x, k1, k2, rfl⟩
      | cons d rest => cases k4
  · rintro _ ⟨g', es, x, k1, k2, rfl⟩
    exact ss_cons (st_ret (ev_fz rfl rfl rfl ⟨_, rfl, g', es, k1, k2, rfl, rfl⟩))
end DI.PL
set_option  exponentiation.threshold  10000
/-! PL5: names. -/
namespace DI.PL
open PySem DI
def T (l : List Nat) : Str := ⟨l.toArray⟩
theorem T_len (l : List Nat) : (T l).length = l.length := by
  show l.toArray.size = _
  simp
theorem T_app (a b : List Nat) : T a ++ T b = T (a ++ b) := by
  show (⟨a.toArray ++ b.toArray⟩ : Str) = ⟨(a ++ b).toArray⟩
  simp
theorem T_inj {a b : List Nat} (h : T a = T b) : a = b := by
  have := congrArg (fun s : Str => s.cps.toList) h
  simpa [T] using this
/-- a name -/
def Nm (s : Str) : Prop := ∃ l, s = T l ∧ 1 ≤ l.length ∧ l.length ≤ 8 ∧ ∀ c ∈ l, 97 ≤ c ∧ c ≤ 122
def nmB (s : Str) : Bool := decide (1 ≤ s.cps.toList.length) && (decide (s.cps.toList.length ≤ 8) && s.cps.toList.all fun c => decide (97 ≤ c) && decide (c ≤ 122))
theorem nm_of {s : Str} (h : nmB s = true) : Nm s := by
  unfold nmB at h
  simp only [Bool.and_eq_true, decide_eq_true_eq, List.all_eq_true] at h
  exact ⟨s.cps.toList, by unfold T; simp, h.1, h.2.1, h.2.2⟩
def letters : Str := "abcdefghijklmnopqrstuvwxyz"
theorem letters_T : letters = T (List.range' 97 26) := by decide +kernel
theorem letter_at {v : Int} (h0 : 0 ≤ v) (h1 : v < 26) : itemOf (.frz, .str letters) (.int v) = some (.frz, .str (T [97 + v.toNat])) := by
  have hl : letters.length ≤ sizeLine := by
    rw [letters_T, T_len, sizeLine_eq]
    simp
  show (if letters.length ≤ sizeLine then (L2.atI letters.cps.toList v).map fun c => ((.frz, .str ⟨#[c]⟩) : SD) else none) = _
  rw [if_pos hl, letters_T]
  obtain ⟨j, rfl⟩ : ∃ j : Nat, v = j := ⟨v.toNat, by omega⟩
  have hj : j < 26 := by omega
  rw [show (T (List.range' 97 26)).cps.toList = List.range' 97 26 from rfl, atI_nat (v := 97 + j) (by rw [List.getElem?_range' (by omega)]; simp)]
  rfl
/-! ### cuts -/
theorem sIx_lo (n : Nat) (k : Nat) : HT.sIx n 0 (some (k : Int)) = min k n := HT.sIx_nat n 0 k
theorem cut_hi {α : Type} (xs : List α) (k : Nat) : cut xs none (some (k : Int)) = xs.take k := by
  unfold cut
  rw [show sIx xs.length 0 none = 0 from rfl, show sIx xs.length xs.length (some (k : Int)) = min k xs.length from HT.sIx_nat _ _ k, List.drop_zero, Nat.sub_zero]
  exact (List.take_eq_take_min ..).symm
theorem cut_lo {α : Type} (xs : List α) (k : Nat) : cut xs (some (k : Int)) none = xs.drop k := by
  unfold cut
  rw [show sIx xs.length xs.length none = xs.length from rfl, show sIx xs.length 0 (some (k : Int)) = min k xs.length from HT.sIx_nat _ _ k]
  by_cases h : k ≤ xs.length
  · rw [Nat.min_eq_left h]
    exact List.take_of_length_le (by rw [List.length_drop]; omega)
  · rw [Nat.min_eq_right (by omega), Nat.sub_self, List.take_zero, List.drop_of_length_le (by omega)]
theorem cut_mid {α : Type} (xs : List α) (j k : Nat) (hj : j ≤ xs.length) (hk : k ≤ xs.length) : cut xs (some (j : Int)) (some (k : Int)) = (xs.drop j).take (k - j) := by
  unfold cut
  rw [show sIx xs.length 0 (some (j : Int)) = min j xs.length from HT.sIx_nat _ _ j, show sIx xs.length xs.length (some (k : Int)) = min k xs.length from HT.sIx_nat _ _ k, Nat.min_eq_left hj, Nat.min_eq_left hk]
theorem cutT_hi (l : List Nat) (k : Nat) : L2.cutS (T l) none (some (k : Int)) = T (l.take k) := by
  have : L2.cutS (T l) none (some (k : Int)) = T (cut l none (some (k : Int))) := by
    unfold L2.cutS cut
    rw [T_len]
    rfl
  rw [this, cut_hi]
theorem cutT_lo (l : List Nat) (k : Nat) : L2.cutS (T l) (some (k : Int)) none = T (l.drop k) := by
  have : L2.cutS (T l) (some (k : Int)) none = T (cut l (some (k : Int)) none) := by
    unfold L2.cutS cut
    rw [T_len]
    rfl
  rw [this, cut_lo]
theorem slT_hi {s : Sh} {l : List Nat} {k : Nat} (hl : l.length ≤ 1000) : sem2 (.sl false true) (s, .str (T l)) (.frz, .int (k : Int)) = some (.frz, .str (T (l.take k))) := by
  show slice (s, .str (T l)) none (some (k : Int)) = _
  show (if (T l).length ≤ sizeLine then sc (.str (L2.cutS (T l) none (some (k : Int)))) else none) = _
  rw [if_pos (by rw [T_len, sizeLine_eq]; omega), cutT_hi]
  rfl
theorem slT_lo {s : Sh} {l : List Nat} {k : Nat} (hl : l.length ≤ 1000) : sem2 (.sl true false) (s, .str (T l)) (.frz, .int (k : Int)) = some (.frz, .str (T (l.drop k))) := by
  show slice (s, .str (T l)) (some (k : Int)) none = _
  show (if (T l).length ≤ sizeLine then sc (.str (L2.cutS (T l) (some (k : Int)) none)) else none) = _
  rw [if_pos (by rw [T_len, sizeLine_eq]; omega), cutT_lo]
  rfl
theorem addT {s t : Sh} {a b : List Nat} (h : a.length + b.length ≤ 1000) : sem2 .add (s, .str (T a)) (t, .str (T b)) = some (.frz, .str (T (a ++ b))) := by
  show (if (T a).length + (T b).length ≤ sizeLine then sc (.str (T a ++ T b)) else none) = _
  rw [if_pos (by rw [T_len, T_len, sizeLine_eq]; omega), T_app]
  rfl
theorem sem_mulS {s t : Sh} {z : Str} {k : Int} : sem2 .mul (s, .str z) (t, .int k) = if (decide (-(2 ^ 63) ≤ k) && decide (k < 2 ^ 63) && decide (z.length * k.toNat ≤ sizeLine)) = true then sc (.str (strRep k z)) else none := rfl
theorem repT {c : Nat} {k : Nat} (s t : Sh) (hk : k ≤ 100) : sem2 .mul (s, .str (T [c])) (t, .int (k : Int)) = some (.frz, .str (T (List.replicate k c))) := by
  have h1 : (decide (-(2 ^ 63) ≤ (k : Int)) && decide ((k : Int) < 2 ^ 63) && decide ((T [c]).length * (k : Int).toNat ≤ sizeLine)) = true := by
    rw [T_len, sizeLine_eq]
    simp only [Bool.and_eq_true, decide_eq_true_eq, List.length_singleton]
    refine ⟨⟨by omega, by omega⟩, by omega⟩
  have h2 : strRep (k : Int) (T [c]) = T (List.replicate k c) := by
    unfold strRep
    by_cases h : (k : Int) < 1
    · rw [if_pos h, show k = 0 by omega]
      rfl
    · rw [if_neg h]
      by_cases h' : ((k : Int) == 1 || (T [c]).length == 0) = true
      · rw [if_pos h']
        rw [T_len] at h'
        simp at h'
        have hk1 : k = 1 := by omega
        subst hk1
        rfl
      · rw [if_neg h']
        have : ∀ (m : Nat) (a : Array Nat), (List.replicate m (T [c]).cps).foldl (· ++ ·) a = a ++ (List.replicate m c).toArray := by
          intro m
          induction m with
          | zero => intro a; simp
          | succ m ih =>
            intro a
            rw [List.replicate_succ, List.foldl_cons, ih, List.replicate_succ]
            unfold T
            apply Array.ext'
            simp
        rw [this, Int.toNat_natCast]
        unfold T
        simp
  rw [sem_mulS, if_pos h1, h2]
  rfl
theorem joinT (cs : List Nat) : PySem.Txt.join (T []) (cs.map fun c => T [c]) = T cs := by
  have h : ∀ (cs : List Nat) (a : Array Nat), (cs.map fun c => T [c]).foldl (fun acc p => acc ++ (T []).cps ++ p.cps) a = a ++ cs.toArray := by
    intro cs
    induction cs with
    | nil => intro a; simp
    | cons c cs ih =>
      intro a
      rw [List.map_cons, List.foldl_cons, ih]
      unfold T
      apply Array.ext'
      simp
  unfold PySem.Txt.join Builtin.Str.glued
  cases cs with
  | nil => simp [T, Str.empty]
  | cons c cs =>
    simp only [List.map_cons, List.drop_succ_cons, List.drop_zero, List.headD_cons]
    rw [h]
    unfold T
    congr 1
    apply Array.ext'
    simp
theorem strs_map : ∀ zs : List Str, strsOf (zs.map .str) = some zs
  | [] => rfl
  | z :: zs => by
    show (strsOf (zs.map .str)).map _ = _
    rw [strs_map zs]
    rfl
/-! ### the words -/
def wordsS : Str := ("call retire hire late undo redo line live keepers log ends depth settle lose reach" : Str) ++ (" safe calls cycle ok workers desk a b ab" : Str)
def words : List Str := PySem.Txt.split wordsS (" " : Str)
theorem words_len : words.length = 24 := by decide +kernel
theorem words_nm : words.all nmB = true := by decide +kernel
theorem words_nd : words.Nodup := by decide +kernel
theorem words_sz : wordsS.length + 2 ≤ 1000 := by decide +kernel
end DI.PL
/-! PL6: the names that a bag gives. -/
namespace DI.PL
open PySem DI
section
variable {sg : Sig} {cl : Calls} {env : Env}
theorem evs_nil {Q : List SD → Env → Prop} (q : Q [] env) : Ok (evs sg cl .nil) env Q := Ok.pure q
theorem evs_cons {e : E} {es : Es} {Q : List SD → Env → Prop} (h : Ok (ev sg cl e) env fun x e1 => Ok (evs sg cl es) e1 fun xs e2 => Q (x :: xs) e2) : Ok (evs sg cl (.cons e es)) env Q :=
  Ok.bind (h.mono fun x e1 h1 => Ok.bind (h1.mono fun xs e2 q => Ok.pure q))
theorem ev_bm {o : Op} {a : E} {as : Es} {Q : SD → Env → Prop} (h : Ok (ev sg cl a) env fun x e => recvOk o x.2 = true ∧ Ok (evs sg cl as) e fun ys e2 => ∃ r, sem o (x :: ys) = some r ∧ Q r e2) : Ok (ev sg cl (.bm o a as)) env Q :=
  Ok.bind (h.mono fun x e ⟨h1, h2⟩ => Ok.ite h1 (Ok.bind (h2.mono fun ys e2 ⟨r, h3, q⟩ => Ok.opt h3 q)))
def Rg (k : Nat) : List SD := (List.range k).map fun (i : Nat) => (.frz, .int (i : Int))
theorem its_rng {x : E} {s : Sh} {k : Nat} (h : Ev sg cl env x (s, .int (k : Int))) (hk : k ≤ 1000) : its sg cl (.rng (.cons x .nil)) env = some (.ok (Rg k) env) := by
  obtain ⟨r, e, h1, rfl, rfl⟩ : Ok (its sg cl (.rng (.cons x .nil))) env fun r e => r = Rg k ∧ e = env := by
    refine Ok.bind (evs_cons (h.ok (evs_nil (Ok.opt (a := Rg k) ?_ ⟨rfl, rfl⟩))))
    show (if inR (k : Int) = true then some (rangeD 0 (k : Int)) else none) = _
    rw [if_pos (by unfold inR; rw [decide_eq_true (show -(2 ^ 62) ≤ (k : Int) by omega), decide_eq_true (show (k : Int) < 2 ^ 62 by omega)]; rfl)]
    unfold rangeD Rg
    rw [Int.sub_zero, Int.toNat_natCast]
    simp
  exact h1
theorem Rg_len (k : Nat) : (Rg k).length = k := by simp [Rg]
theorem Rg_mem {k : Nat} {x : SD} (h : x ∈ Rg k) : ∃ i : Nat, i < k ∧ x = (.frz, .int (i : Int)) := by
  obtain ⟨i, hi, rfl⟩ := List.mem_map.mp h
  exact ⟨i, List.mem_range.mp hi, rfl⟩
/-- a list over a range, each item by itself -/
theorem lc_rng {o : Nat} {x elt : E} {s t : Sh} {k : Nat} {f : Nat → D} (hx : Ev sg cl env x (t, .int (k : Int))) (hk : k ≤ 1000) (ho : o < env.length)
    (step : ∀ i, i < k → ∃ q, Ev sg cl (env.set o (some (.frz, .int (i : Int)))) elt q ∧ ∃ q', takeAs s elt q = some q' ∧ q'.2 = f i) : Ev sg cl env (.lc [o] (.nm o) (.rng (.cons x .nil)) .nil elt s) (.lst s, .lst ((List.range k).map f)) := by
  have := lc_pure (sg := sg) (cl := cl) (env := env) (own := [o]) (tg := .nm o) (ifs := .nil) (elt := elt) (s := s) (fun _ => true) (fun y => match y.2 with | .int i => f i.toNat | _ => .non) (its_rng hx hk) (by rw [Rg_len, sizeLine_eq]; omega) ?_
  · have e : ((Rg k).filter fun _ => true).map (fun y => match y.2 with | .int i => f i.toNat | _ => .non) = (List.range k).map f := by
      rw [List.filter_eq_self.mpr (fun _ _ => rfl)]
      unfold Rg
      rw [List.map_map]
      rfl
    rw [← e]
    exact this
  · intro y hy e he
    obtain ⟨i, hi, rfl⟩ := Rg_mem hy
    obtain ⟨q, h1, q', h2, h3⟩ := step i hi
    have hw : wipeE [o] env = env.set o none := rfl
    refine Ok.of (a := ()) (e := env.set o (some (.frz, .int (i : Int)))) ?_ (Ok.of (a := true) (e := env.set o (some (.frz, .int (i : Int)))) rfl ⟨rfl, ?_, fun _ => h1.ok ⟨q', h2, h3, ?_⟩⟩)
    · show some (Out.ok () ((wipeE [o] e).set o _)) = _
      rw [he, hw, List.set_set]
    · show (env.set o _).set o none = _
      rw [List.set_set]
      rfl
    · show (env.set o _).set o none = _
      rw [List.set_set]
      rfl
end
variable {P : Prog} {n : Nat}
abbrev eN (g : Bag) (m : Nat) (x3 x4 x5 x6 x7 x8 x9 x10 : Option SD) : Env := [some (bg g), some (.frz, .int (m : Int)), some (.frz, .str letters), x3, x4, x5, x6, x7, x8, x9, x10]
abbrev WL : SD := (.lst .frz, .lst (words.map .str))
/-- the base text -/
theorem base_ok (S : Std P) {g : Bag} (hg : g.ok) {m sz : Nat} (hs : sz ≤ 6) {x3 x5 x6 x7 x8 x9 : Option SD} {Q : SD → Env → Prop} (q : ∀ (g' : Bag) (cs : List Nat), g'.ok → cs.length = sz → (∀ c ∈ cs, 97 ≤ c ∧ c ≤ 122) → Q (.frz, .str (T cs)) (eN g' m x3 (some (.frz, .int (sz : Int))) x5 x6 x7 x8 x9 none)) :
    Ok (ev P.sg (callD P (n + 1)) (.bm .join (.cst (.str "")) (.cons (.lc [10] (.nm 10) (.rng (.cons (.pl (.var 4)) .nil)) .nil (.app .ix (.cons (.pl (.var 2)) (.cons (.call 1 (.cons (.pl (.var 0)) (.cons (.cst (.int (26))) .nil))) .nil))) .frz) .nil))) (eN g m x3 (some (.frz, .int (sz : Int))) x5 x6 x7 x8 x9 none) Q := by
  refine ev_bm (ev_cst ⟨rfl, evs_cons (ev_lc (fun e1 rem done e => e1 = eN g m x3 (some (.frz, .int (sz : Int))) x5 x6 x7 x8 x9 none ∧ ∃ (g' : Bag) (cs : List Nat) (x : Option SD), g'.ok ∧ e = eN g' m x3 (some (.frz, .int (sz : Int))) x5 x6 x7 x8 x9 x ∧ done = cs.map (fun c => .str (T [c])) ∧ (∀ c ∈ cs, 97 ≤ c ∧ c ≤ 122) ∧ cs.length + rem.length = sz) (Ok.of (its_rng (Ev.pl rfl) (by omega)) ⟨rfl, g, [], none, hg, rfl, rfl, fun c hc => (by cases hc), by rw [Rg_len]; simp⟩) ?_ ?_)⟩)
  · rintro e1 x xs done e ⟨h1, g', cs, y, k1, rfl, rfl, k4, k5⟩
    refine Ok.of (a := ()) (e := eN g' m x3 (some (.frz, .int (sz : Int))) x5 x6 x7 x8 x9 (some x)) rfl (Ok.of (a := true) (e := eN g' m x3 (some (.frz, .int (sz : Int))) x5 x6 x7 x8 x9 (some x)) rfl ?_)
    rw [if_pos rfl]
    refine ev_app2 (ev_pl rfl (ev_take S rfl k1 Ev.cst (by decide) (by decide) fun v g2 v0 v1 g2ok => ⟨(.frz, .str (T [97 + v.toNat])), ?_, _, rfl, h1, g2, cs ++ [97 + v.toNat], some x, g2ok, rfl, ?_, ?_, ?_⟩))
    · show (itemOf (.frz, .str letters) (.int v)).bind share = _
      rw [letter_at v0 v1]
      rfl
    · rw [List.map_append]
      rfl
    · intro c hc
      rcases List.mem_append.mp hc with hc | hc
      · exact k4 c hc
      · rw [List.mem_singleton.mp hc]
        omega
    · rw [List.length_append, List.length_singleton]
      rw [List.length_cons] at k5
      omega
  · rintro e1 ds e2 ⟨rfl, g', cs, x, k1, rfl, rfl, k4, k5⟩
    have hcs : cs.length = sz := by simpa using k5
    refine ⟨by rw [List.length_map, sizeLine_eq]; omega, evs_nil ⟨(.frz, .str (T cs)), ?_, q g' cs k1 hcs k4⟩⟩
    show (strsOf (cs.map fun c => D.str (T [c]))).bind (fun ys => if (ys.map (·.length)).sum + ys.length * ("" : Str).length ≤ 16777216 then sc (.str (PySem.Txt.join ("" : Str) ys)) else none) = _
    have e1 : (cs.map fun c => D.str (T [c])) = (cs.map fun c => T [c]).map .str := by rw [List.map_map]; rfl
    have e2 : ("" : Str) = T [] := rfl
    rw [e1, strs_map, e2]
    show (if ((cs.map fun c => T [c]).map (·.length)).sum + (cs.map fun c => T [c]).length * (T []).length ≤ 16777216 then sc (.str (PySem.Txt.join (T []) (cs.map fun c => T [c]))) else none) = _
    rw [joinT, if_pos ?_]
    · rfl
    · rw [List.map_map, List.length_map, T_len, List.length_nil, Nat.mul_zero, Nat.add_zero]
      have : ∀ l : List Nat, (l.map ((fun s : Str => s.length) ∘ fun c => T [c])).sum = l.length := by
        intro l
        induction l with
        | nil => rfl
        | cons c l ih =>
          rw [List.map_cons, List.sum_cons, ih, List.length_cons]
          show (T [c]).length + _ = _
          rw [T_len, List.length_singleton]
          omega
      rw [this]
      omega
end DI.PL
/-! PL7: names, all ways. -/
namespace DI.PL
open PySem DI
section
variable {sg : Sig} {cl : Calls} {env : Env}
theorem Ev.and {a b : E} {s t : Sh} {k k' : Bool} (ha : Ev sg cl env a (s, .bl k)) (hb : Ev sg cl env b (t, .bl k')) (hp : b.place = false) : Ev sg cl env (.and a b) (if k = true then t else .frz, .bl (k && k')) := by
  obtain ⟨r, e, h1, h2, h3⟩ := ev_and (k := k) (sg := sg) (cl := cl) (env := env) (a := a) (b := b) (Q := fun r e => r = (if k = true then t else .frz, .bl (k && k')) ∧ e = env) (ha.ok ⟨rfl, by
    cases k with
    | true => exact hb.ok ⟨_, by rw [hp]; rfl, rfl, rfl⟩
    | false => exact ⟨rfl, rfl⟩⟩)
  subst h2 h3
  exact h1
theorem Ev.or {a b : E} {s t : Sh} {k k' : Bool} (ha : Ev sg cl env a (s, .bl k)) (hb : Ev sg cl env b (t, .bl k')) (hp : b.place = false) : Ev sg cl env (.or a b) (if k = true then .frz else t, .bl (k || k')) := by
  obtain ⟨r, e, h1, h2, h3⟩ := ev_or (k := k) (sg := sg) (cl := cl) (env := env) (a := a) (b := b) (Q := fun r e => r = (if k = true then .frz else t, .bl (k || k')) ∧ e = env) (ha.ok ⟨rfl, by
    cases k with
    | false => exact hb.ok ⟨_, by rw [hp]; rfl, rfl, rfl⟩
    | true => exact ⟨rfl, rfl⟩⟩)
  subst h2 h3
  exact h1
theorem Ev.bm {o : Op} {a b : E} {x y r : SD} (ha : Ev sg cl env a x) (hr : recvOk o x.2 = true) (hb : Ev sg cl env b y) (hs : sem2 o x y = some r) : Ev sg cl env (.bm o a (.cons b .nil)) r := by
  obtain ⟨r', e, h1, rfl, rfl⟩ := ev_bm (o := o) (sg := sg) (cl := cl) (env := env) (Q := fun r' e => r' = r ∧ e = env) (ha.ok ⟨hr, evs_cons (hb.ok (evs_nil ⟨r, hs, rfl, rfl⟩))⟩)
  exact h1
theorem ife_no {c : E} {a : Ss} {s : Sh} {N : Env → Prop} {R : SD → Env → Prop} (h : Ev sg cl env c (s, .bl false)) (q : N env) : Ok (st sg cl (.ife c a .nil)) env (Fin1 N R) := st_ife (k := false) (h.ok ⟨rfl, ss_nil q⟩)
theorem ife_yes {c : E} {a b : Ss} {s : Sh} {N : Env → Prop} {R : SD → Env → Prop} (h : Ev sg cl env c (s, .bl true)) (q : Ok (sts sg cl a) env (Fin1 N R)) : Ok (st sg cl (.ife c a b)) env (Fin1 N R) := st_ife (k := true) (h.ok ⟨rfl, q⟩)
end
theorem slL_lo {ds : List D} {k : Nat} {t : Sh} : sem2 (.sl true false) (.lst .frz, .lst ds) (t, .int (k : Int)) = some (.lst .frz, .lst (ds.drop k)) := by
  show lit (cut ds (some (k : Int)) none) = _
  rw [cut_lo]
  rfl
theorem slL_hi {ds : List D} {k : Nat} {t : Sh} : sem2 (.sl false true) (.lst .frz, .lst ds) (t, .int (k : Int)) = some (.lst .frz, .lst (ds.take k)) := by
  show lit (cut ds none (some (k : Int))) = _
  rw [cut_hi]
  rfl
theorem addL {as bs : List D} (h : as.length + bs.length ≤ 1000) : sem2 .add (.lst .frz, .lst as) (.lst .frz, .lst bs) = some (.lst .frz, .lst (as ++ bs)) := by
  show (if as.length + bs.length ≤ sizeLine then lit (as ++ bs) else none) = _
  rw [if_pos (by rw [sizeLine_eq]; omega)]
  rfl
theorem nodup_map {α β : Type} {f : α → β} : ∀ {l : List α}, l.Nodup → (∀ a ∈ l, ∀ b ∈ l, f a = f b → a = b) → (l.map f).Nodup
  | [], _, _ => List.nodup_nil
  | a :: l, h, hf => by
    obtain ⟨h1, h2⟩ := List.nodup_cons.mp h
    rw [List.map_cons]
    refine List.nodup_cons.mpr ⟨fun hm => ?_, nodup_map h2 fun x hx y hy => hf x (.tail _ hx) y (.tail _ hy)⟩
    obtain ⟨b, hb, e⟩ := List.mem_map.mp hm
    have := hf b (.tail _ hb) a (.head _) e
    subst this
    exact h1 hb
/-- what is asked of a row of names -/
structure Nms (m : Nat) (zs : List Str) : Prop where
  len : zs.length = m
  nm : ∀ z ∈ zs, Nm z
  nd : zs.Nodup
theorem nms_words {t m : Nat} (ht : t < 24) (hm : m ≤ 24) : Nms m ((words.drop t ++ words.take t).take m) := by
  have hp : (words.drop t ++ words.take t).Perm words := List.perm_append_comm.trans (by rw [List.take_append_drop])
  refine ⟨?_, fun z hz => ?_, (hp.nodup_iff.mpr words_nd).sublist (List.take_sublist ..)⟩
  · rw [List.length_take, hp.length_eq, words_len]
    omega
  · exact nm_of (List.all_eq_true.mp words_nm z (hp.mem_iff.mp (List.mem_of_mem_take hz)))
theorem nms_one {c m : Nat} (hc : 97 ≤ c ∧ c ≤ 122) (hm : m ≤ 8) : Nms m ((List.range m).map fun k => T (List.replicate (k + 1) c)) := by
  refine ⟨by simp, fun z hz => ?_, nodup_map List.nodup_range fun a ha b hb e => ?_⟩
  · obtain ⟨k, hk, rfl⟩ := List.mem_map.mp hz
    have := List.mem_range.mp hk
    refine ⟨_, rfl, by simp, by simp; omega, fun x hx => ?_⟩
    rw [(List.mem_replicate.mp hx).2]
    exact hc
  · have := congrArg List.length (T_inj e)
    simpa using this
def nk (bs : List Nat) (at_ tn b0 k : Nat) : List Nat := ((bs.take at_ ++ [97 + (tn + 3 * k) % 26]) ++ bs.drop (at_ + 1)) ++ List.replicate (k / 26) b0
theorem nms_two {bs : List Nat} {at_ tn b0 m : Nat} (hb : ∀ c ∈ bs, 97 ≤ c ∧ c ≤ 122) (h0 : 97 ≤ b0 ∧ b0 ≤ 122) (hl : bs.length ≤ 6) (ha : at_ < bs.length) (hm : m ≤ 61) : Nms m ((List.range m).map fun k => T (nk bs at_ tn b0 k)) := by
  have len : ∀ k, (nk bs at_ tn b0 k).length = bs.length + k / 26 := fun k => by
    unfold nk
    simp only [List.length_append, List.length_take, List.length_singleton, List.length_drop, List.length_replicate]
    omega
  refine ⟨by simp, fun z hz => ?_, nodup_map List.nodup_range fun a hr b hr2 e => ?_⟩
  · obtain ⟨k, hk, rfl⟩ := List.mem_map.mp hz
    have hk := List.mem_range.mp hk
    refine ⟨_, rfl, by rw [len]; omega, by rw [len]; omega, fun x hx => ?_⟩
    unfold nk at hx
    rcases List.mem_append.mp hx with hx | hx
    · rcases List.mem_append.mp hx with hx | hx
      · rcases List.mem_append.mp hx with hx | hx
        · exact hb x (List.mem_of_mem_take hx)
        · rw [List.mem_singleton.mp hx]
          omega
      · exact hb x (List.mem_of_mem_drop hx)
    · rw [(List.mem_replicate.mp hx).2]
      exact h0
  · have e' := T_inj e
    have hr := List.mem_range.mp hr
    have hr2 := List.mem_range.mp hr2
    have e1 := congrArg List.length e'
    rw [len, len] at e1
    have at1 : ∀ k, (nk bs at_ tn b0 k)[at_]? = some (97 + (tn + 3 * k) % 26) := fun k => by
      unfold nk
      have l1 : (bs.take at_).length = at_ := by rw [List.length_take]; omega
      rw [List.append_assoc, List.append_assoc, List.getElem?_append_right (by omega), l1, Nat.sub_self]
      rfl
    have e2 := at1 a
    rw [e', at1 b] at e2
    injection e2 with e2
    omega
end DI.PL
/-! PL8: _law_names. -/
namespace DI.PL
open PySem DI
variable {P : Prog} {n : Nat}
theorem sem_addS {s t : Sh} {a b : Str} : sem2 .add (s, .str a) (t, .str b) = if a.length + b.length ≤ sizeLine then sc (.str (a ++ b)) else none := rfl
theorem text_at {l : List Nat} {k c : Nat} {s : Sh} (hl : l.length ≤ 1000) (h : l[k]? = some c) : itemOf (s, .str (T l)) (.int (k : Int)) = some (.frz, .str (T [c])) := by
  have h' : itemOf (s, .str (T l)) (.int (k : Int)) = if (T l).length ≤ sizeLine then (L2.atI (T l).cps.toList (k : Int)).map fun c => ((.frz, .str ⟨#[c]⟩) : SD) else none := by cases s <;> rfl
  rw [h', if_pos (by rw [T_len, sizeLine_eq]; omega)]
  rw [show (T l).cps.toList = l by unfold T; simp, atI_nat h]
  rfl
theorem list_at {ds : List D} {k : Nat} {d : D} {s : Sh} (hs : s = .frz ∨ s = .lst .frz) (h : ds[k]? = some d) : itemOf (s, .lst ds) (.int (k : Int)) = some (.frz, d) := by
  rcases hs with rfl | rfl
  all_goals
    show (atD ds (k : Int)).map _ = _
    rw [show atD ds (k : Int) = some d from atI_nat h]
    rfl
theorem names_ok (S : Std P) {g : Bag} (hg : g.ok) {m : Nat} (hm : m ≤ 61) : ∃ (g' : Bag) (zs : List Str), g'.ok ∧ Nms m zs ∧ callD P (n + 2) 3 [bg g, (.frz, .int (m : Int))] = some (.ok (.lst .frz, .lst (zs.map .str)) [some (bg g'), none]) := by
  suffices h : ∃ r outs, callD P (n + 2) 3 [bg g, (.frz, .int (m : Int))] = some (.ok r outs) ∧ ∃ (g' : Bag) (zs : List Str), g'.ok ∧ Nms m zs ∧ r = (.lst .frz, .lst (zs.map .str)) ∧ outs = [some (bg g'), none] by
    obtain ⟨r, outs, hc, g', zs, h1, h2, rfl, rfl⟩ := h
    exact ⟨g', zs, h1, h2, hc⟩
  refine call_ok S.d3 ?_
  rw [S.m3]
  show Ok (sts P.sg (callD P (n + 1)) names_c) [some (bg g), some (.frz, .int (m : Int)), none, none, none, none, none, none, none, none, none] _
  refine seq (fun e => e = eN g m none none none none none none none none) (st_set (ev_cst ⟨_, rfl, rfl⟩)) ?_
  rintro _ rfl
  refine seq (fun e => e = eN g m (some (.frz, .str ("call retire hire late undo redo line live keepers log ends depth settle lose reach" : Str))) none none none none none none none) (st_set (ev_cst ⟨_, rfl, rfl⟩)) ?_
  rintro _ rfl
  refine seq (fun e => e = eN g m (some WL) none none none none none none none) ?_ ?_
  · have h0 : ("call retire hire late undo redo line live keepers log ends depth settle lose reach" : Str).length + (" safe calls cycle ok workers desk a b ab" : Str).length ≤ 1000 := by decide +kernel
    have h1 : sem2 .add (.frz, .str ("call retire hire late undo redo line live keepers log ends depth settle lose reach" : Str)) (.frz, .str (" safe calls cycle ok workers desk a b ab" : Str)) = some (.frz, .str wordsS) := by
      rw [sem_addS, if_pos (Nat.le_trans h0 (by rw [sizeLine_eq]; omega))]
      rfl
    have h2 : sem2 .split (.frz, .str wordsS) (.frz, .str (" " : Str)) = some WL := by
      show (if (decide ((" " : Str).length ≠ 0) && decide (wordsS.length + 2 ≤ sizeLine)) = true then lit ((PySem.Txt.split wordsS (" " : Str)).map .str) else none) = _
      rw [if_pos]
      · rfl
      · have : wordsS.length + 2 ≤ sizeLine := Nat.le_trans words_sz (by rw [sizeLine_eq]; omega)
        rw [decide_eq_true this]
        rfl
    exact st_set ((Ev.bm (Ev.app2 (Ev.pl rfl) Ev.cst h1) rfl Ev.cst h2).ok ⟨_, rfl, rfl⟩)
  rintro _ rfl
  -- way, turn
  refine seq (fun e => ∃ (g1 : Bag) (way tn : Nat), g1.ok ∧ tn < 26 ∧ e = eN g1 m (some WL) none none none none (some (.frz, .int (way : Int))) (some (.frz, .int (tn : Int))) none) ?_ ?_
  · refine st_asg (ev_tup (evG_cons (ev_take S rfl hg Ev.cst (by decide) (by decide) fun v1 g1 a0 a1 k1 => ⟨_, rfl, evG_cons (ev_take S rfl k1 Ev.cst (by decide) (by decide) fun v2 g2 b0 b1 k2 => ⟨_, rfl, evG_nil ⟨_, rfl, Ok.of (a := ()) rfl ⟨g2, v1.toNat, v2.toNat, k2, by omega, ?_⟩⟩⟩)⟩)))
    rw [Int.toNat_of_nonneg a0, Int.toNat_of_nonneg b0]
    rfl
  rintro _ ⟨g1, way, tn, k1, htn, rfl⟩
  -- size
  refine seq (fun e => ∃ (g2 : Bag) (sz : Nat), g2.ok ∧ 1 ≤ sz ∧ sz ≤ 6 ∧ e = eN g2 m (some WL) (some (.frz, .int (sz : Int))) none none none (some (.frz, .int (way : Int))) (some (.frz, .int (tn : Int))) none) ?_ ?_
  · refine st_set (ev_app2 (ev_cst (ev_take S rfl k1 Ev.cst (by decide) (by decide) fun v g2 v0 v1 k2 => ⟨_, rfl, _, rfl, g2, (1 + v).toNat, k2, by omega, by omega, ?_⟩)))
    rw [Int.toNat_of_nonneg (by omega)]
    rfl
  rintro _ ⟨g2, sz, k2, s1, s6, rfl⟩
  -- base
  refine seq (fun e => ∃ (g3 : Bag) (bs : List Nat), g3.ok ∧ bs.length = sz ∧ (∀ c ∈ bs, 97 ≤ c ∧ c ≤ 122) ∧ e = eN g3 m (some WL) (some (.frz, .int (sz : Int))) (some (.frz, .str (T bs))) none none (some (.frz, .int (way : Int))) (some (.frz, .int (tn : Int))) none) ?_ ?_
  · exact st_set (base_ok S k2 s6 fun g3 bs c1 c2 c3 => ⟨_, rfl, g3, bs, c1, c2, c3, rfl⟩)
  rintro _ ⟨g3, bs, k3, bl, bc, rfl⟩
  -- at
  refine seq (fun e => ∃ (g4 : Bag) (at_ : Nat), g4.ok ∧ at_ < sz ∧ e = eN g4 m (some WL) (some (.frz, .int (sz : Int))) (some (.frz, .str (T bs))) (some (.frz, .int (at_ : Int))) none (some (.frz, .int (way : Int))) (some (.frz, .int (tn : Int))) none) ?_ ?_
  · refine st_set (ev_take S rfl k3 (Ev.pl rfl) (by omega) (by omega) fun v g4 v0 v1 k4 => ⟨_, rfl, g4, v.toNat, k4, by omega, ?_⟩)
    rw [Int.toNat_of_nonneg v0]
    rfl
  rintro _ ⟨g4, at_, k4, ha, rfl⟩
  generalize hX : (some ((.frz, .int (way : Int)) : SD)) = XW
  generalize hT : (some ((.frz, .int (tn : Int)) : SD)) = XT
  generalize hA : (some ((.frz, .int (at_ : Int)) : SD)) = XA
  generalize hS : (some ((.frz, .int (sz : Int)) : SD)) = XS
  generalize hB : (some ((.frz, .str (T bs)) : SD)) = XB
  have out0 : ∀ (x7 x10 : Option SD), outsOf (eN g4 m (some WL) XS XB XA x7 XW XT x10) 0 [.io, .bor] = [some (bg g4), none] := fun _ _ => rfl
  have modE : sem2 .mod (.frz, .int (tn : Int)) (.frz, .int 24) = some (.frz, .int ((tn % 24 : Nat) : Int)) := by
    rw [mod_int (by decide)]
    rfl
  -- the words, turned
  refine seq (fun e => e = eN g4 m (some WL) XS XB XA none XW XT none) ?_ ?_
  · have hc : Ev P.sg (callD P (n + 1)) (eN g4 m (some WL) XS XB XA none XW XT none) (.and (.app .eq (.cons (.pl (.var 8)) (.cons (.cst (.int (0))) .nil))) (.app .le (.cons (.pl (.var 1)) (.cons (.cst (.int (24))) .nil)))) _ :=
      Ev.and (Ev.app2 (x := (.frz, .int (way : Int))) (Ev.pl (by subst hX; rfl)) Ev.cst eq_int) (Ev.app2 (x := (.frz, .int (m : Int))) (Ev.pl rfl) Ev.cst (show sem2 .le (.frz, .int (m : Int)) (.frz, .int 24) = some (.frz, .bl (decide ((m : Int) ≤ 24))) from rfl)) rfl
    by_cases h : (decide ((way : Int) = 0) && decide ((m : Int) ≤ 24)) = true
    rotate_left
    · have h' : (decide ((way : Int) = 0) && decide ((m : Int) ≤ 24)) = false := by simpa using h
      rw [h'] at hc
      exact ife_no hc rfl
    · rw [h] at hc
      have hm24 : m ≤ 24 := by
        have := of_decide_eq_true (Bool.and_eq_true_iff.mp h).2
        omega
      refine ife_yes hc (ss_cons (st_ret ?_))
      have h1 : Ev P.sg (callD P (n + 1)) (eN g4 m (some WL) XS XB XA none XW XT none) _ _ := Ev.app2 (o := .sl false true) (Ev.app2 (o := .add) (Ev.app2 (o := .sl true false) (x := WL) (Ev.pl (p := .var 3) rfl) (Ev.app2 (o := .mod) (x := (.frz, .int (tn : Int))) (Ev.pl (p := .var 9) (by subst hT; rfl)) (Ev.cst (d := .int 24)) modE) slL_lo)
        (Ev.app2 (o := .sl false true) (x := WL) (Ev.pl (p := .var 3) rfl) (Ev.app2 (o := .mod) (x := (.frz, .int (tn : Int))) (Ev.pl (p := .var 9) (by subst hT; rfl)) (Ev.cst (d := .int 24)) modE) slL_hi) (addL (by rw [List.length_drop, List.length_take, List.length_map, words_len]; omega))) (Ev.pl (p := .var 1) (x := (.frz, .int (m : Int))) rfl) slL_hi
      refine h1.ok ⟨_, rfl, g4, (words.drop (tn % 24) ++ words.take (tn % 24)).take m, k4, nms_words (Nat.mod_lt _ (by omega)) hm24, ?_, rfl⟩
      rw [List.map_take, List.map_append, List.map_drop, List.map_take]
  rintro _ rfl
  have lt : itemOf (.frz, .str letters) (.int (tn : Int)) = some (.frz, .str (T [97 + tn])) := by
    have := letter_at (v := (tn : Int)) (by omega) (by omega)
    rw [Int.toNat_natCast] at this
    exact this
  -- one letter
  refine seq (fun e => e = eN g4 m (some WL) XS XB XA none XW XT none) ?_ ?_
  · have hc : Ev P.sg (callD P (n + 1)) (eN g4 m (some WL) XS XB XA none XW XT none) (.and (.app .eq (.cons (.pl (.var 8)) (.cons (.cst (.int (1))) .nil))) (.app .le (.cons (.pl (.var 1)) (.cons (.cst (.int (8))) .nil)))) _ :=
      Ev.and (Ev.app2 (x := (.frz, .int (way : Int))) (Ev.pl (by subst hX; rfl)) Ev.cst eq_int) (Ev.app2 (x := (.frz, .int (m : Int))) (Ev.pl rfl) Ev.cst (show sem2 .le (.frz, .int (m : Int)) (.frz, .int 8) = some (.frz, .bl (decide ((m : Int) ≤ 8))) from rfl)) rfl
    by_cases h : (decide ((way : Int) = 1) && decide ((m : Int) ≤ 8)) = true
    rotate_left
    · have h' : (decide ((way : Int) = 1) && decide ((m : Int) ≤ 8)) = false := by simpa using h
      rw [h'] at hc
      exact ife_no hc rfl
    · rw [h] at hc
      have hm8 : m ≤ 8 := by
        have := of_decide_eq_true (Bool.and_eq_true_iff.mp h).2
        omega
      refine ife_yes hc (ss_cons (st_ret ?_))
      refine (lc_rng (o := 10) (k := m) (f := fun k => .str (T (List.replicate (k + 1) (97 + tn)))) (t := .frz) (Ev.pl rfl) (by omega) (by show 10 < 11; omega) fun i hi => ⟨(.frz, .str (T ((List.replicate 8 (97 + tn)).take (i + 1)))), ?_, _, rfl, ?_⟩).ok ⟨_, rfl, g4, _, k4, nms_one (c := 97 + tn) (by omega) hm8, ?_, rfl⟩
      · exact Ev.app2 (Ev.app2 (x := (.frz, .str (T [97 + tn]))) (Ev.pl (by
          subst hT
          show (itemOf (.frz, .str letters) (.int (tn : Int))) = _
          exact lt)) Ev.cst (repT (k := 8) .frz .frz (by omega))) (Ev.app2 (y := (.frz, .int 1)) (x := (.frz, .int (i : Int))) (Ev.pl rfl) Ev.cst rfl) (slT_hi (k := i + 1) (by simp))
      · show D.str (T ((List.replicate 8 (97 + tn)).take (i + 1))) = _
        rw [List.take_replicate, Nat.min_eq_left (by omega)]
      · rw [List.map_map]
        rfl
  rintro _ rfl
  -- a letter changed
  have hb0 : ∃ b0, bs[0]? = some b0 := ⟨_, List.getElem?_eq_getElem (by omega)⟩
  obtain ⟨b0, hb0⟩ := hb0
  have hb0r := bc b0 (List.mem_of_getElem? hb0)
  generalize hF : (fun k : Nat => (D.str (T ((bs.take at_ ++ [97 + (tn + 3 * k) % 26]) ++ bs.drop (at_ + 1))))) = F
  refine seq (fun e => e = eN g4 m (some WL) XS XB XA (some (.lst .frz, .lst ((List.range m).map F))) XW XT none) ?_ ?_
  · refine st_set ((lc_rng (o := 10) (k := m) (f := F) (t := .frz) (Ev.pl rfl) (by omega) (by show 10 < 11; omega) fun i hi => ⟨(.frz, F i), ?_, _, rfl, rfl⟩).ok ⟨_, rfl, rfl⟩)
    have mE : sem2 .mod (.frz, .int ((tn : Int) + 3 * (i : Int))) (.frz, .int 26) = some (.frz, .int (((tn + 3 * i) % 26 : Nat) : Int)) := by
      rw [mod_int (by decide)]
      rfl
    have lt2 : itemOf (.frz, .str letters) (.int (((tn + 3 * i) % 26 : Nat) : Int)) = some (.frz, .str (T [97 + (tn + 3 * i) % 26])) := by
      have := letter_at (v := (((tn + 3 * i) % 26 : Nat) : Int)) (by omega) (by omega)
      rw [Int.toNat_natCast] at this
      exact this
    rw [← hF]
    refine Ev.app2 (o := .add) (Ev.app2 (o := .add) (Ev.app2 (o := .sl false true) (x := (.frz, .str (T bs))) (y := (.frz, .int (at_ : Int))) (Ev.pl (p := .var 5) (by subst hB; rfl)) (Ev.pl (p := .var 6) (by subst hA; rfl)) (slT_hi (k := at_) (by omega)))
      (Ev.app2 (o := .ix) (x := (.frz, .str letters)) (Ev.pl (p := .var 2) rfl) (Ev.app2 (o := .mod) (Ev.app2 (o := .add) (x := (.frz, .int (tn : Int))) (Ev.pl (p := .var 9) (by subst hT; rfl)) (Ev.app2 (o := .mul) (y := (.frz, .int (i : Int))) (Ev.cst (d := .int 3)) (Ev.pl (p := .var 10) rfl) (mul_int rfl)) rfl) (Ev.cst (d := .int 26)) mE) (by
        show (itemOf (.frz, .str letters) (.int (((tn + 3 * i) % 26 : Nat) : Int))).bind share = _
        rw [lt2]
        rfl)) (addT (a := bs.take at_) (b := [97 + (tn + 3 * i) % 26]) (by rw [List.length_take, List.length_singleton]; omega)))
      (Ev.app2 (o := .sl true false) (x := (.frz, .str (T bs))) (Ev.pl (p := .var 5) (by subst hB; rfl)) (Ev.app2 (o := .add) (x := (.frz, .int (at_ : Int))) (Ev.pl (p := .var 6) (by subst hA; rfl)) (Ev.cst (d := .int 1)) rfl) (slT_lo (k := at_ + 1) (by omega))) (addT (a := bs.take at_ ++ [97 + (tn + 3 * i) % 26]) (b := bs.drop (at_ + 1)) (by rw [List.length_append, List.length_take, List.length_singleton, List.length_drop]; omega))
  rintro _ rfl
  refine ss_cons (st_ret ((lc_rng (o := 10) (k := m) (f := fun k => .str (T (nk bs at_ tn b0 k))) (t := .frz) (Ev.pl rfl) (by omega) (by show 10 < 11; omega) fun i hi => ⟨(.frz, .str (T (nk bs at_ tn b0 i))), ?_, _, rfl, rfl⟩).ok ⟨_, rfl, g4, _, k4, nms_two (m := m) (at_ := at_) (tn := tn) bc hb0r (by omega) (by omega) hm, ?_, rfl⟩))
  · have hk : ((List.range m).map F)[i]? = some (F i) := by
      rw [List.getElem?_map, List.getElem?_range hi]
      rfl
    refine Ev.app2 (o := .add) (x := (.frz, F i)) (Ev.pl (p := .ix (.var 7) (.var 10)) ?_) (Ev.app2 (o := .mul) (x := (.frz, .str (T [b0]))) (Ev.pl (p := .ix (.var 5) (.cst (.int 0))) ?_) (Ev.app2 (o := .fdiv) (x := (.frz, .int (i : Int))) (Ev.pl (p := .var 10) rfl) (Ev.cst (d := .int 26)) (fdiv_int (by decide) (by decide))) (repT (k := i / 26) .frz .frz (by omega))) ?_
    · show itemOf (.lst .frz, .lst ((List.range m).map F)) (.int (i : Int)) = _
      exact list_at (.inr rfl) hk
    · subst hB
      show itemOf (.frz, .str (T bs)) (.int ((0 : Nat) : Int)) = _
      exact text_at (by omega) hb0
    · rw [← hF]
      unfold nk
      exact addT (by simp only [List.length_append, List.length_take, List.length_singleton, List.length_drop, List.length_replicate]; omega)
  · rw [List.map_map]
    rfl
end DI.PL
/-! PL9: _law_crew. -/
namespace DI.PL
open PySem DI
section
variable {sg : Sig} {cl : Calls} {env : Env}
theorem Ev.sl2 {a b c : E} {x z r : SD} {s : Sh} {i : Int} (ha : Ev sg cl env a x) (hb : Ev sg cl env b (s, .int i)) (hc : Ev sg cl env c z) (hs : sem3 (.sl true true) x (s, .int i) z = some r) : Ev sg cl env (.sl2 a b c) r := by
  obtain ⟨r', e, h1, rfl, rfl⟩ : Ok (ev sg cl (.sl2 a b c)) env fun r' e => r' = r ∧ e = env :=
    Ok.bind (ha.ok (Ok.bind (hb.ok (Ok.bind (hc.ok (Ok.opt hs ⟨rfl, rfl⟩))))))
  exact h1
end
/-- a text that may be compared -/
def okS (a : Str) : Prop := SeqAt.shaped (.str a) = true
theorem okS_T {l : List Nat} (h : ∀ c ∈ l, c < 1114112) : okS (T l) := by
  have h1 : (PyData.str (T l)).canLay0 = true := by
    show ((T l).cps.all fun c => decide (c < 1114112)) = true
    unfold T
    simp only [List.all_toArray, List.all_eq_true, decide_eq_true_eq]
    exact h
  unfold okS SeqAt.shaped
  rw [h1]
  rfl
theorem okS_nm {z : Str} (h : Nm z) : okS z := by
  obtain ⟨l, rfl, _, _, h⟩ := h
  exact okS_T fun c hc => by
    have := h c hc
    omega
theorem eqv_str {a b : Str} (ha : okS a) (hb : okS b) : eqvD (.str a) (.str b) = some (decide (a = b)) := by
  have h : PyData.eqv (.str a) (.str b) = decide (a = b) := by
    show (a == b) = decide (a = b)
    rw [Bool.eq_iff_iff]
    simp
  show (if (SeqAt.shaped (.str a) && SeqAt.shaped (.str b)) = true then some (PyData.eqv (.str a) (.str b)) else none) = _
  rw [h, show SeqAt.shaped (.str a) = true from ha, show SeqAt.shaped (.str b) = true from hb]
  rfl
theorem eq_str {s t : Sh} {a b : Str} (ha : okS a) (hb : okS b) : sem2 .eq (s, .str a) (t, .str b) = some (.frz, .bl (decide (a = b))) := by
  rw [sem_eq, eqv_str ha hb]
  rfl
theorem sem_mulL {as : List D} {t : Sh} {k : Int} : sem2 .mul (.lst .frz, .lst as) (t, .int k) = if (decide (-(2 ^ 63) ≤ k) && decide (k < 2 ^ 63) && decide (as.length * k.toNat ≤ sizeLine)) = true then lit (List.replicate k.toNat as).flatten else none := rfl
theorem sem_ne {s t : Sh} {a b : D} : sem2 .ne (s, a) (t, b) = (eqvD a b).bind fun c => sc (.bl (!c)) := by cases a <;> cases b <;> rfl
theorem ne_int {s t : Sh} {a b : Int} : sem2 .ne (s, .int a) (t, .int b) = some (.frz, .bl (!decide (a = b))) := by
  rw [sem_ne, eqv_int]
  rfl
variable {P : Prog} {n : Nat}
theorem ev_mixed (S : Std P) {env : Env} {i : Nat} {e : E} {g0 : Bag} {Q : SD → Env → Prop} (hi : env[i]? = some (some (bg g0))) (he : Ok (ev P.sg (callD P (n + 2)) e) env fun x e1 => ∃ g ds, takeAs .frz e x = some (.frz, .lst ds) ∧ g.ok ∧ ds.length ≤ 1000 ∧ e1[i]? = some (some (bg g)) ∧
    ∀ (g' : Bag) (es : List D), g'.ok → es.Perm ds → Q (.frz, .lst es) (e1.set i (some (bg g')))) : Ok (ev P.sg (callD P (n + 2)) (.call 4 (.cons (.pl (.var i)) (.cons e .nil)))) env Q := by
  refine ev_call S.m4 (evC_io hi (evC_val rfl (he.mono fun x e1 ⟨g, ds, h1, h2, h3, h4, h5⟩ => ⟨.val (.frz, .lst ds), ?_, evC_nil ?_⟩)))
  · show (takeAs .frz e x).map CA.val = _
    rw [h1]
    rfl
  · obtain ⟨g', es, k1, k2, k3⟩ := mixed_ok (n := n) S h2 ds h3
    have hio : ioGet e1 (.io i) = some (bg g) := by
      show (match e1[i]? with
        | some (some x) => if x.1.given = true then some x else none
        | _ => none) = _
      rw [h4]
      rfl
    refine ⟨[bg g, (.frz, .lst ds)], (.frz, .lst es), [some (bg g'), none], e1.set i (some (bg g')), ?_, k3, rfl, rfl, h5 g' es k1 k2⟩
    show (ioGet e1 (.io i)).bind _ = _
    rw [hio]
    rfl
abbrev strsD (ws : List Str) : D := .lst (ws.map .str)
structure CrewOk (ws cs : List Str) : Prop where
  ne : cs ≠ []
  nd : cs.Nodup
  sub : ∀ c ∈ cs, c ∈ ws
theorem perm_strs {es : List D} {ws : List Str} (h : es.Perm (ws.map .str)) : ∃ zs : List Str, es = zs.map .str ∧ zs.Perm ws := by
  have hm : ∀ d ∈ es, ∃ z : Str, d = .str z := fun d hd => by
    obtain ⟨z, _, e⟩ := List.mem_map.mp (h.mem_iff.mp hd)
    exact ⟨z, e.symm⟩
  have hz : ∃ zs : List Str, es = zs.map .str := by
    clear h
    induction es with
    | nil => exact ⟨[], rfl⟩
    | cons d es ih =>
      obtain ⟨z, rfl⟩ := hm d (.head _)
      obtain ⟨zs, rfl⟩ := ih fun d hd => hm d (.tail _ hd)
      exact ⟨z :: zs, rfl⟩
  obtain ⟨zs, rfl⟩ := hz
  refine ⟨zs, rfl, ?_⟩
  have := h.map (fun d => match d with | D.str z => z | _ => Str.empty)
  rw [List.map_map, List.map_map] at this
  have e : ∀ l : List Str, l.map ((fun d => match d with | D.str z => z | _ => Str.empty) ∘ D.str) = l := fun l => List.map_id l
  rw [e, e] at this
  exact this
theorem crew_perm {ws cs es : List Str} (h : CrewOk ws cs) (p : es.Perm cs) : CrewOk ws es :=
  ⟨fun e => h.ne (by subst e; exact p.nil_eq.symm), p.nodup_iff.mpr h.nd, fun c hc => h.sub c (p.mem_iff.mp hc)⟩
theorem crew_ok (S : Std P) {g : Bag} (hg : g.ok) {ws : List Str} (hw : ∀ w ∈ ws, okS w) (hnd : ws.Nodup) (h1 : 1 ≤ ws.length) (h2 : ws.length ≤ 100) (way : Int) :
    ∃ (g' : Bag) (s : Sh) (cs : List Str), g'.ok ∧ (s = .frz ∨ s = .lst .frz) ∧ CrewOk ws cs ∧ callD P (n + 3) 5 [bg g, (.frz, strsD ws), (.frz, .int way)] = some (.ok (s, strsD cs) [some (bg g'), none, none]) := by
  suffices h : ∃ r outs, callD P (n + 3) 5 [bg g, (.frz, strsD ws), (.frz, .int way)] = some (.ok r outs) ∧ ∃ (g' : Bag) (s : Sh) (cs : List Str), g'.ok ∧ (s = .frz ∨ s = .lst .frz) ∧ CrewOk ws cs ∧ r = (s, strsD cs) ∧ outs = [some (bg g'), none, none] by
    obtain ⟨r, outs, hc, g', s, cs, k1, k2, k3, rfl, rfl⟩ := h
    exact ⟨g', s, cs, k1, k2, k3, hc⟩
  refine call_ok S.d5 ?_
  rw [S.m5]
  show Ok (sts P.sg (callD P (n + 2)) crew_c) [some (bg g), some (.frz, strsD ws), some (.frz, .int way), none, none, none, none, none] _
  refine seq (fun e => e = [some (bg g), some (.frz, strsD ws), some (.frz, .int way), some (.frz, .int (ws.length : Int)), none, none, none, none]) ?_ ?_
  · refine st_set (ev_app1 (ev_pl rfl ⟨_, rfl, _, rfl, ?_⟩))
    show [_, _, _, some ((Sh.frz, D.int (((ws.map D.str).length : Nat) : Int)) : SD), _, _, _, _] = _
    rw [List.length_map]
  rintro _ rfl
  refine seq (fun e => ∃ (g1 : Bag) (a b : Nat), g1.ok ∧ a < ws.length ∧ b < ws.length ∧ e = [some (bg g1), some (.frz, strsD ws), some (.frz, .int way), some (.frz, .int (ws.length : Int)), some (.frz, .int (a : Int)), some (.frz, .int (b : Int)), none, none]) ?_ ?_
  · refine st_asg (ev_tup (evG_cons (ev_take S rfl hg (Ev.pl rfl) (by omega) (by omega) fun v1 g1 a0 a1 k1 => ⟨_, rfl, evG_cons (ev_take S rfl k1 (Ev.pl rfl) (by omega) (by omega) fun v2 g2 b0 b1 k2 => ⟨_, rfl, evG_nil ⟨_, rfl, Ok.of (a := ()) rfl ⟨g2, v1.toNat, v2.toNat, k2, by omega, by omega, ?_⟩⟩⟩)⟩)))
    rw [Int.toNat_of_nonneg a0, Int.toNat_of_nonneg b0]
    rfl
  rintro _ ⟨g1, a, b, k1, ha, hb, rfl⟩
  obtain ⟨wa, hwa⟩ : ∃ wa, ws[a]? = some wa := ⟨_, List.getElem?_eq_getElem ha⟩
  obtain ⟨wb, hwb⟩ : ∃ wb, ws[b]? = some wb := ⟨_, List.getElem?_eq_getElem hb⟩
  have ma := List.mem_of_getElem? hwa
  have mb := List.mem_of_getElem? hwb
  have ia : itemOf (.frz, strsD ws) (.int (a : Int)) = some (.frz, .str wa) := list_at (.inl rfl) (by rw [List.getElem?_map, hwa]; rfl)
  have ib : itemOf (.frz, strsD ws) (.int (b : Int)) = some (.frz, .str wb) := list_at (.inl rfl) (by rw [List.getElem?_map, hwb]; rfl)
  generalize hE : ([some (bg g1), some (.frz, strsD ws), some (.frz, .int way), some (.frz, .int (ws.length : Int)), some (.frz, .int (a : Int)), some (.frz, .int (b : Int)), none, none] : Env) = env
  have eway : Ev P.sg (callD P (n + 2)) env (.pl (.var 2)) (.frz, .int way) := Ev.pl (by subst hE; rfl)
  have ea : Ev P.sg (callD P (n + 2)) env (.pl (.ix (.var 1) (.var 4))) (.frz, .str wa) := Ev.pl (by subst hE; exact ia)
  have eb : Ev P.sg (callD P (n + 2)) env (.pl (.ix (.var 1) (.var 5))) (.frz, .str wb) := Ev.pl (by subst hE; exact ib)
  have e4 : Ev P.sg (callD P (n + 2)) env (.pl (.var 4)) (.frz, .int (a : Int)) := Ev.pl (by subst hE; rfl)
  have e5 : Ev P.sg (callD P (n + 2)) env (.pl (.var 5)) (.frz, .int (b : Int)) := Ev.pl (by subst hE; rfl)
  have eo : outsOf env 0 [.io, .frz, .bor] = [some (bg g1), none, none] := by subst hE; rfl
  have one : ∀ {x : Str} {p : Pl}, Ev P.sg (callD P (n + 2)) env (.pl p) (.frz, .str x) → Ev P.sg (callD P (n + 2)) env (.lst .frz (.cons (.pl p) .nil)) (.lst .frz, .lst [.str x]) := fun {x p} h => by
    obtain ⟨r, e, h1, rfl, rfl⟩ := ev_lst (s := .frz) (Q := fun r e => r = (.lst .frz, .lst [.str x]) ∧ e = env) (evG_cons (h.ok ⟨(.frz, .str x), rfl, evG_nil ⟨rfl, rfl⟩⟩))
    exact h1
  have io0 : env[0]? = some (some (bg g1)) := by subst hE; rfl
  -- one worker
  refine seq (fun e => e = env) ?_ ?_
  · have hc := Ev.app2 (o := .eq) eway (Ev.cst (d := .int 0)) eq_int
    by_cases h : way = 0
    rotate_left
    · rw [decide_eq_false h] at hc
      exact ife_no hc rfl
    · rw [decide_eq_true h] at hc
      exact ife_yes hc (ss_cons (st_ret ((one ea).ok ⟨_, rfl, g1, .lst .frz, [wa], k1, .inr rfl, ⟨by simp, by simp, fun c hc => by rw [List.mem_singleton.mp hc]; exact ma⟩, rfl, eo⟩)))
  intro e0 he0
  rw [he0]
  clear he0 e0
  -- two
  refine seq (fun e => e = env) ?_ ?_
  · have hc := Ev.app2 (o := .eq) eway (Ev.cst (d := .int 1)) eq_int
    by_cases h : way = 1
    rotate_left
    · rw [decide_eq_false h] at hc
      exact ife_no hc rfl
    · rw [decide_eq_true h] at hc
      have hne := Ev.app2 (o := .ne) e5 e4 ne_int
      have hmul : ∀ k : Nat, k ≤ 1 → sem2 .mul (.lst .frz, .lst [.str wb]) (.frz, .int (k : Int)) = some (.lst .frz, .lst (List.replicate k [D.str wb]).flatten) := fun k hk => by
        rw [sem_mulL, if_pos (by rw [sizeLine_eq]; simp only [Bool.and_eq_true, decide_eq_true_eq]; exact ⟨⟨by omega, by omega⟩, by rw [List.length_singleton]; omega⟩)]
        rfl
      by_cases hab : (b : Int) = (a : Int)
      · rw [decide_eq_true hab] at hne
        have hres := Ev.app2 (o := .add) (one ea) (Ev.app2 (o := .mul) (one eb) (Ev.app1 (o := .int) hne rfl) (hmul 0 (by omega))) (addL (by simp))
        exact ife_yes hc (ss_cons (st_ret (hres.ok ⟨_, rfl, g1, .lst .frz, [wa], k1, .inr rfl, ⟨by simp, by simp, fun c hc => by rw [List.mem_singleton.mp hc]; exact ma⟩, rfl, eo⟩)))
      · rw [decide_eq_false hab] at hne
        have hres := Ev.app2 (o := .add) (one ea) (Ev.app2 (o := .mul) (one eb) (Ev.app1 (o := .int) hne rfl) (hmul 1 (by omega))) (addL (by simp))
        refine ife_yes hc (ss_cons (st_ret (hres.ok ⟨_, rfl, g1, .lst .frz, [wa, wb], k1, .inr rfl, ⟨by simp, ?_, fun c hc => ?_⟩, rfl, eo⟩)))
        · refine List.nodup_cons.mpr ⟨fun hm => ?_, by simp⟩
          have e := List.mem_singleton.mp hm
          subst e
          have := (List.getElem?_inj ha hnd).mp (hwa.trans hwb.symm)
          omega
        · rcases List.mem_cons.mp hc with rfl | hc
          · exact ma
          · rw [List.mem_singleton.mp hc]
            exact mb
  intro e0 he0
  rw [he0]
  clear he0 e0
  have wsm : (ws.map D.str).length ≤ 1000 := by rw [List.length_map]; omega
  -- a piece
  refine seq (fun e => e = env) ?_ ?_
  · have hc := Ev.app2 (o := .eq) eway (Ev.cst (d := .int 2)) eq_int
    by_cases h : way = 2
    rotate_left
    · rw [decide_eq_false h] at hc
      exact ife_no hc rfl
    · rw [decide_eq_true h] at hc
      have hmin : sem2 .min2 (.frz, .int (a : Int)) (.frz, .int (b : Int)) = some (.frz, .int ((min a b : Nat) : Int)) := by
        show sc (.int (if (b : Int) < (a : Int) then (b : Int) else (a : Int))) = _
        by_cases hh : (b : Int) < (a : Int)
        · rw [if_pos hh, show min a b = b by omega]
          rfl
        · rw [if_neg hh, show min a b = a by omega]
          rfl
      have hmax : sem2 .max2 (.frz, .int (a : Int)) (.frz, .int (b : Int)) = some (.frz, .int ((max a b : Nat) : Int)) := by
        show sc (.int (if (b : Int) > (a : Int) then (b : Int) else (a : Int))) = _
        by_cases hh : (b : Int) > (a : Int)
        · rw [if_pos hh, show max a b = b by omega]
          rfl
        · rw [if_neg hh, show max a b = a by omega]
          rfl
      have hsl : sem3 (.sl true true) (.frz, strsD ws) (.frz, .int ((min a b : Nat) : Int)) (.frz, .int ((max a b + 1 : Nat) : Int)) = some (.lst .frz, strsD ((ws.drop (min a b)).take (max a b + 1 - min a b))) := by
        show lit (cut (ws.map D.str) (some ((min a b : Nat) : Int)) (some ((max a b + 1 : Nat) : Int))) = _
        rw [cut_mid _ _ _ (by rw [List.length_map]; omega) (by rw [List.length_map]; omega), ← List.map_drop, ← List.map_take]
        rfl
      have e1 : Ev P.sg (callD P (n + 2)) env (.pl (.var 1)) (.frz, strsD ws) := Ev.pl (by subst hE; rfl)
      have hpiece := Ev.sl2 e1 (Ev.app2 (o := .min2) e4 e5 hmin) (Ev.app2 (o := .add) (y := (.frz, .int 1)) (Ev.app2 (o := .max2) e4 e5 hmax) (Ev.cst (d := .int 1)) rfl) hsl
      refine ife_yes hc (ss_cons (st_ret (ev_mixed S io0 (hpiece.ok ⟨g1, _, rfl, k1, by rw [List.length_map, List.length_take, List.length_drop]; omega, io0, fun g' es q1 q2 => ?_⟩))))
      obtain ⟨zs, rfl, pz⟩ := perm_strs q2
      refine ⟨_, rfl, g', .frz, zs, q1, .inl rfl, crew_perm ⟨fun e => ?_, (hnd.sublist (List.drop_sublist ..)).sublist (List.take_sublist ..), fun c hc => List.mem_of_mem_drop (List.mem_of_mem_take hc)⟩ pz, rfl, by subst hE; rfl⟩
      have := congrArg List.length e
      rw [List.length_take, List.length_drop, List.length_nil] at this
      omega
  intro e0 he0
  rw [he0]
  clear he0 e0
  -- some of them
  refine seq (fun e => e = env) ?_ ?_
  · have hc := Ev.app2 (o := .eq) eway (Ev.cst (d := .int 3)) eq_int
    by_cases h : way = 3
    rotate_left
    · rw [decide_eq_false h] at hc
      exact ife_no hc rfl
    · rw [decide_eq_true h] at hc
      subst hE
      let en : Bag → Option SD → Option SD → Env := fun g x y => [some (bg g), some (.frz, strsD ws), some (.frz, .int way), some (.frz, .int (ws.length : Int)), some (.frz, .int (a : Int)), some (.frz, .int (b : Int)), x, y]
      refine ife_yes hc (seq (fun e => ∃ (g2 : Bag) (cs : List Str), g2.ok ∧ CrewOk ws cs ∧ cs.length ≤ ws.length ∧ e = en g2 (some (.lst .frz, strsD cs)) none) ?_ ?_)
      · refine st_set (ev_lc (fun e1 rem done e => e1 = en g1 none none ∧ ∃ (g2 : Bag) (pre rest cs : List Str) (y : Option SD), g2.ok ∧ pre ++ rest = ws ∧ rem = rest.map (fun z => (.frz, .str z)) ∧ done = cs.map .str ∧ cs.Sublist pre ∧ (wa ∈ pre → wa ∈ cs) ∧ e = en g2 none y) (its_e (ev_pl rfl ⟨_, rfl, rfl, g1, [], ws, [], none, k1, rfl, ?_, rfl, .slnil, fun h => h, rfl⟩)) ?_ ?_)
        · rw [List.map_map]
          rfl
        · rintro e1 x xs done e ⟨h1, g2, pre, rest, cs, y, q1, q2, q3, rfl, q5, q6, rfl⟩
          cases rest with
          | nil => cases q3
          | cons z rest =>
            cases q3
            refine Ok.of (a := ()) (e := en g2 none (some (.frz, .str z))) rfl ?_
            have ez : Ev P.sg (callD P (n + 2)) (en g2 none (some (.frz, .str z))) (.app .eq (.cons (.pl (.var 7)) (.cons (.pl (.ix (.var 1) (.var 4))) .nil))) (.frz, .bl (decide (z = wa))) := Ev.app2 (x := (.frz, .str z)) (y := (.frz, .str wa)) (Ev.pl rfl) (Ev.pl ia) (eq_str (hw z (q2 ▸ List.mem_append_right _ (.head _))) (hw wa ma))
            have nxt : ∀ (g3 : Bag), g3.ok → ∀ (k : Bool), (k = false → z ≠ wa) → if k = true then Ok (ev P.sg (callD P (n + 2)) (.fz 7)) (en g3 none (some (.frz, .str z))) (fun r e4 => ∃ q, takeAs .frz (.fz 7) r = some q ∧ (e1 = en g1 none none ∧ ∃ (g2 : Bag) (pre rest' cs' : List Str) (y : Option SD), g2.ok ∧ pre ++ rest' = ws ∧ rest.map (fun z => ((.frz, .str z) : SD)) = rest'.map (fun z => (.frz, .str z)) ∧ cs.map .str ++ [q.2] = cs'.map .str ∧ cs'.Sublist pre ∧ (wa ∈ pre → wa ∈ cs') ∧ e4 = en g2 none y))
                else (e1 = en g1 none none ∧ ∃ (g2 : Bag) (pre rest' cs' : List Str) (y : Option SD), g2.ok ∧ pre ++ rest' = ws ∧ rest.map (fun z => ((.frz, .str z) : SD)) = rest'.map (fun z => (.frz, .str z)) ∧ cs.map D.str = cs'.map .str ∧ cs'.Sublist pre ∧ (wa ∈ pre → wa ∈ cs') ∧ en g3 none (some (.frz, .str z)) = en g2 none y) := fun g3 g3ok k hk => by
              cases k with
              | true =>
                rw [if_pos rfl]
                refine ev_fz rfl rfl rfl ⟨(.frz, .str z), rfl, h1, g3, pre ++ [z], rest, cs ++ [z], _, g3ok, by rw [List.append_assoc]; exact q2, rfl, by rw [List.map_append]; rfl, q5.append (List.Sublist.refl _), fun hm => ?_, rfl⟩
                rcases List.mem_append.mp hm with hm | hm
                · exact List.mem_append_left _ (q6 hm)
                · exact List.mem_append_right _ hm
              | false =>
                rw [if_neg (by simp)]
                refine ⟨h1, g3, pre ++ [z], rest, cs, _, g3ok, by rw [List.append_assoc]; exact q2, rfl, rfl, q5.trans (List.sublist_append_left ..), fun hm => ?_, rfl⟩
                rcases List.mem_append.mp hm with hm | hm
                · exact q6 hm
                · exact absurd (List.mem_singleton.mp hm).symm (hk rfl)
            refine Ok.bind (ev_or (k := decide (z = wa)) (ez.ok ⟨rfl, ?_⟩))
            by_cases hz : z = wa
            · rw [if_pos (decide_eq_true hz)]
              exact Ok.opt (a := true) rfl (nxt g2 q1 true fun h => by cases h)
            · rw [if_neg (by simp [hz])]
              refine ev_app2 (ev_take S rfl q1 Ev.cst (by decide) (by decide) fun v g3 v0 v1 g3ok => ev_cst ⟨_, eq_int, _, rfl, Ok.opt (a := decide (v = 0)) rfl (nxt g3 g3ok (decide (v = 0)) fun _ => hz)⟩)
        · rintro e1 ds e2 ⟨rfl, g2, pre, rest, cs, y, q1, q2, q3, rfl, q5, q6, rfl⟩
          cases rest with
          | cons _ _ => cases q3
          | nil =>
            rw [List.append_nil] at q2
            subst q2
            have hle := q5.length_le
            refine ⟨by rw [List.length_map, sizeLine_eq]; omega, _, rfl, g2, cs, q1, ⟨fun e => ?_, hnd.sublist q5, fun c hc => q5.subset hc⟩, hle, rfl⟩
            have := q6 ma
            rw [e] at this
            cases this
      · rintro _ ⟨g2, cs, q1, q2, q3, rfl⟩
        refine ss_cons (st_ret (ev_mixed (g0 := g2) S rfl (ev_fz rfl rfl rfl ⟨g2, cs.map .str, rfl, q1, by rw [List.length_map]; omega, rfl, fun g' es p1 p2 => ?_⟩)))
        obtain ⟨zs, rfl, pz⟩ := perm_strs p2
        exact ⟨_, rfl, g', .frz, zs, p1, .inl rfl, crew_perm q2 pz, rfl, rfl⟩
  intro e0 he0
  rw [he0]
  clear he0 e0
  subst hE
  refine ss_cons (st_ret (ev_mixed (g0 := g1) S rfl (ev_fz rfl rfl rfl ⟨g1, ws.map .str, rfl, k1, wsm, rfl, fun g' es p1 p2 => ?_⟩)))
  obtain ⟨zs, rfl, pz⟩ := perm_strs p2
  exact ⟨_, rfl, g', .frz, zs, p1, .inl rfl, crew_perm ⟨fun e => by rw [e] at h1; simp at h1, hnd, fun c hc => hc⟩ pz, rfl, rfl⟩
end DI.PL
/-! PL10: _law_parts, _law_sized. -/
namespace DI.PL
open PySem DI
theorem perm_map_inv {α β : Type} {f : α → β} {es ms : List β} (h : es.Perm ms) : ∀ l : List α, ms = l.map f → ∃ l' : List α, es = l'.map f ∧ l'.Perm l := by
  induction h with
  | nil =>
    intro l e
    cases l with
    | nil => exact ⟨[], rfl, .nil⟩
    | cons a l => cases e
  | cons x h ih =>
    intro l e
    cases l with
    | nil => cases e
    | cons a l =>
      injection e with e1 e2
      obtain ⟨l', h1, h2⟩ := ih l e2
      exact ⟨a :: l', by rw [List.map_cons, ← h1, ← e1], h2.cons a⟩
  | swap x y l0 =>
    intro l e
    match l, e with
    | a :: b :: l, e =>
      injection e with e1 e2
      injection e2 with e2 e3
      exact ⟨b :: a :: l, by rw [List.map_cons, List.map_cons, ← e1, ← e2, ← e3], .swap ..⟩
    | [], e => cases e
    | [a], e =>
      injection e with e1 e2
      cases e2
  | trans h1 h2 ih1 ih2 =>
    intro l e
    obtain ⟨l2, q1, q2⟩ := ih2 l e
    obtain ⟨l1, q3, q4⟩ := ih1 l2 q1
    exact ⟨l1, q3, q4.trans q2⟩
theorem nodup_len {α : Type} : ∀ l ws : List α, l.Nodup → (∀ x ∈ l, x ∈ ws) → l.length ≤ ws.length
  | [], _, _, _ => Nat.zero_le _
  | x :: l, ws, h1, h2 => by
    obtain ⟨a, b, e⟩ := List.append_of_mem (h2 x (.head _))
    have hx := List.nodup_cons.mp h1
    have := nodup_len l (a ++ b) hx.2 fun y hy => by
      have := h2 y (.tail _ hy)
      rw [e] at this
      rcases List.mem_append.mp this with h | h
      · exact List.mem_append_left _ h
      · rcases List.mem_cons.mp h with h | h
        · subst h; exact absurd hy hx.1
        · exact List.mem_append_right _ h
    rw [e]
    simp only [List.length_append, List.length_cons] at this ⊢
    omega
def dskD (p : Str × List Str) : D := .tup [.str p.1, strsD p.2]
/-- a roster's parts -/
structure PartsOk (ws : List Str) (dk : List (Str × List Str)) : Prop where
  w1 : 1 ≤ ws.length
  w40 : ws.length ≤ 40
  wn : ∀ w ∈ ws, Nm w
  wd : ws.Nodup
  d60 : dk.length ≤ 60
  dn : ∀ p ∈ dk, Nm p.1
  dd : (dk.map (·.1)).Nodup
  cr : ∀ p ∈ dk, CrewOk ws p.2
abbrev partsD (ws : List Str) (dk : List (Str × List Str)) : D := .tup [strsD ws, .lst (dk.map dskD)]
variable {P : Prog} {n : Nat}
theorem io_get {e1 : Env} {i : Nat} {g : Bag} (h : e1[i]? = some (some (bg g))) : ioGet e1 (.io i) = some (bg g) := by
  show (match e1[i]? with
    | some (some x) => if x.1.given = true then some x else none
    | _ => none) = _
  rw [h]
  rfl
theorem ev_names (S : Std P) {env : Env} {i : Nat} {e : E} {g0 : Bag} {Q : SD → Env → Prop} (hi : env[i]? = some (some (bg g0))) (he : Ok (ev P.sg (callD P (n + 2)) e) env fun x e1 => ∃ (m : Nat) (s : Sh) (g : Bag), x = (s, .int (m : Int)) ∧ m ≤ 61 ∧ g.ok ∧ e1[i]? = some (some (bg g)) ∧
    ∀ (g' : Bag) (zs : List Str), g'.ok → Nms m zs → Q (.lst .frz, strsD zs) (e1.set i (some (bg g')))) : Ok (ev P.sg (callD P (n + 2)) (.call 3 (.cons (.pl (.var i)) (.cons e .nil)))) env Q := by
  refine ev_call S.m3 (evC_io hi (evC_val rfl (he.mono fun x e1 ⟨m, s, g, h1, h2, h3, h4, h5⟩ => ⟨.val (.frz, .int (m : Int)), by subst h1; rfl, evC_nil ?_⟩)))
  obtain ⟨g', zs, k1, k2, k3⟩ := names_ok (n := n) S h3 h2
  refine ⟨[bg g, (.frz, .int (m : Int))], (.lst .frz, strsD zs), [some (bg g'), none], e1.set i (some (bg g')), ?_, k3, rfl, rfl, h5 g' zs k1 k2⟩
  show (ioGet e1 (.io i)).bind _ = _
  rw [io_get h4]
  rfl
theorem ev_crew (S : Std P) {env : Env} {i : Nat} {e f : E} {g0 : Bag} {ws : List Str} {way : Int} {t : Sh} {Q : SD → Env → Prop} (hi : env[i]? = some (some (bg g0))) (hw : ∀ w ∈ ws, okS w) (hnd : ws.Nodup) (h1 : 1 ≤ ws.length) (h2 : ws.length ≤ 100)
    (he : Ok (ev P.sg (callD P (n + 3)) e) env fun x e1 => takeAs .frz e x = some (.frz, strsD ws) ∧ Ok (ev P.sg (callD P (n + 3)) f) e1 fun y e2 => ∃ g, y = (t, .int way) ∧ g.ok ∧ e2[i]? = some (some (bg g)) ∧ ∀ (g' : Bag) (s : Sh) (cs : List Str), g'.ok → (s = .frz ∨ s = .lst .frz) → CrewOk ws cs → Q (s, strsD cs) (e2.set i (some (bg g')))) :
    Ok (ev P.sg (callD P (n + 3)) (.call 5 (.cons (.pl (.var i)) (.cons e (.cons f .nil))))) env Q := by
  refine ev_call S.m5 (evC_io hi (evC_val rfl (he.mono fun x e1 ⟨q1, q2⟩ => ⟨.val (.frz, strsD ws), ?_, evC_val rfl (q2.mono fun y e2 ⟨g, q3, q4, q5, q6⟩ => ⟨.val (.frz, .int way), by subst q3; rfl, evC_nil ?_⟩)⟩)))
  · show (takeAs .frz e x).map CA.val = _
    rw [q1]
    rfl
  · obtain ⟨g', s, cs, k1, k2, k3, k4⟩ := crew_ok (n := n) S q4 hw hnd h1 h2 way
    refine ⟨[bg g, (.frz, strsD ws), (.frz, .int way)], (s, strsD cs), [some (bg g'), none, none], e2.set i (some (bg g')), ?_, k4, ?_, rfl, q6 g' s cs k1 k2 k3⟩
    · show (ioGet e2 (.io i)).bind _ = _
      rw [io_get q5]
      rfl
    · rcases k2 with rfl | rfl <;> rfl
theorem st_ifeX {sg : Sig} {cl : Calls} {env : Env} {N : Env → Prop} {R : SD → Env → Prop} {c : E} {a b : Ss} (h : Ok (ev sg cl c) env fun x e => ∃ k : Bool, x.2 = .bl k ∧ Ok (sts sg cl (if k = true then a else b)) e (Fin1 N R)) : Ok (st sg cl (.ife c a b)) env (Fin1 N R) :=
  Ok.bind (h.mono fun x e ⟨k, h1, h2⟩ => Ok.bind (Ok.opt (a := k) (by unfold truth; rw [h1]) (by cases k <;> exact h2)))
theorem parts_ok (S : Std P) {g : Bag} (hg : g.ok) {most desks : Nat} (m1 : 1 ≤ most) (m40 : most ≤ 40) (d60 : desks ≤ 60) :
    ∃ (g' : Bag) (ws : List Str) (dk : List (Str × List Str)), g'.ok ∧ PartsOk ws dk ∧ callD P (n + 4) 6 [bg g, (.frz, .int (most : Int)), (.frz, .int (desks : Int))] = some (.ok (.frz, partsD ws dk) [some (bg g'), none, none]) := by
  suffices h : ∃ r outs, callD P (n + 4) 6 [bg g, (.frz, .int (most : Int)), (.frz, .int (desks : Int))] = some (.ok r outs) ∧ ∃ (g' : Bag) (ws : List Str) (dk : List (Str × List Str)), g'.ok ∧ PartsOk ws dk ∧ r = (.frz, partsD ws dk) ∧ outs = [some (bg g'), none, none] by
    obtain ⟨r, outs, hc, g', ws, dk, k1, k2, rfl, rfl⟩ := h
    exact ⟨g', ws, dk, k1, k2, hc⟩
  refine call_ok S.d6 ?_
  rw [S.m6]
  let M : SD := (.frz, .int (most : Int))
  let K : SD := (.frz, .int (desks : Int))
  show Ok (sts P.sg (callD P (n + 3)) parts_c) [some (bg g), some M, some K, none, none, none, none, none, none, none, none, none] _
  refine seq (fun e => ∃ (g1 : Bag) (m : Nat), g1.ok ∧ 1 ≤ m ∧ m ≤ 40 ∧ e = [some (bg g1), some M, some K, some (.frz, .int (m : Int)), none, none, none, none, none, none, none, none]) ?_ ?_
  · refine st_set (ev_app2 (ev_cst (ev_take S rfl hg (Ev.pl rfl) (by omega) (by omega) fun v g1 v0 v1 k1 => ⟨_, rfl, _, rfl, g1, (1 + v).toNat, k1, by omega, by omega, ?_⟩)))
    rw [Int.toNat_of_nonneg (by omega)]
    rfl
  rintro _ ⟨g1, m, k1, mm1, mm40, rfl⟩
  refine seq (fun e => ∃ (g2 : Bag) (ws : List Str), g2.ok ∧ Nms m ws ∧ e = [some (bg g2), some M, some K, some (.frz, .int (m : Int)), some (.lst .frz, strsD ws), none, none, none, none, none, none, none]) ?_ ?_
  · exact st_set (ev_names S rfl ((Ev.pl rfl).ok ⟨m, .frz, g1, rfl, by omega, k1, rfl, fun g2 ws q1 q2 => ⟨_, rfl, g2, ws, q1, q2, rfl⟩⟩))
  rintro _ ⟨g2, ws, k2, hws, rfl⟩
  refine seq (fun e => ∃ (g3 : Bag) (zs : List Str) (q : Nat), g3.ok ∧ q ≤ 60 ∧ Nms q zs ∧ e = [some (bg g3), some M, some K, some (.frz, .int (m : Int)), some (.lst .frz, strsD ws), some (.lst .frz, strsD zs), none, none, none, none, none, none]) ?_ ?_
  · refine st_set (ev_names S rfl (ev_take S rfl k2 (Ev.app2 (y := (.frz, .int 1)) (Ev.pl rfl) (Ev.cst (d := .int 1)) rfl) (by omega) (by omega) fun v g3 v0 v1 k3 => ⟨v.toNat, .frz, g3, ?_, by omega, k3, rfl, fun g4 zs q1 q2 => ⟨_, rfl, g4, zs, v.toNat, q1, by omega, q2, rfl⟩⟩))
    rw [Int.toNat_of_nonneg v0]
  rintro _ ⟨g3, zs, q, k3, q60, hzs, rfl⟩
  refine seq (fun e => ∃ (g4 : Bag) (sty : Nat), g4.ok ∧ sty < 6 ∧ e = [some (bg g4), some M, some K, some (.frz, .int (m : Int)), some (.lst .frz, strsD ws), some (.lst .frz, strsD zs), some (.frz, .int (sty : Int)), none, none, none, none, none]) ?_ ?_
  · refine st_set (ev_take S rfl k3 Ev.cst (by decide) (by decide) fun v g4 v0 v1 k4 => ⟨_, rfl, g4, v.toNat, k4, by omega, ?_⟩)
    rw [Int.toNat_of_nonneg v0]
    rfl
  rintro _ ⟨g4, sty, k4, hsty, rfl⟩
  let en : Bag → Sh → List (Str × List Str) → Option SD → Option SD → Option SD → Option SD → Env := fun g s dk a b c d => [some (bg g), some M, some K, some (.frz, .int (m : Int)), some (s, strsD ws), some (.lst .frz, strsD zs), some (.frz, .int (sty : Int)), some (.lst .frz, .lst (dk.map dskD)), a, b, c, d]
  refine seq (fun e => e = en g4 (.lst .frz) [] none none none none) (st_set (ev_lst (evG_nil ⟨_, rfl, rfl⟩))) ?_
  rintro _ rfl
  have hokw : ∀ w ∈ ws, okS w := fun w hw => okS_nm (hws.nm w hw)
  have hwl := hws.len
  have own : ∀ {s : Sh}, (s = .frz ∨ s = .lst .frz) → s.isB = false ∧ noB s = true := fun {s} h => by rcases h with rfl | rfl <;> exact ⟨rfl, rfl⟩
  refine seq (fun e => ∃ (g5 : Bag) (s : Sh) (dk : List (Str × List Str)) (a b c d : Option SD), g5.ok ∧ (s = .frz ∨ s = .lst .frz) ∧ dk.map (·.1) = zs ∧ (∀ p ∈ dk, CrewOk ws p.2) ∧ e = en g5 s dk a b c d) ?_ ?_
  · refine st_for (fun rem e => ∃ (g5 : Bag) (s : Sh) (pre rest : List Str) (dk : List (Str × List Str)) (a b c d : Option SD), g5.ok ∧ (s = .frz ∨ s = .lst .frz) ∧ pre ++ rest = zs ∧ dk.map (·.1) = pre ∧ (∀ p ∈ dk, CrewOk ws p.2) ∧ rem = enums pre.length (rest.map fun z => (.frz, .str z)) ∧ e = en g5 s dk a b c d) ?_ ?_ ?_
    · refine Ok.bind (ev_pl rfl ?_)
      refine Ok.ite rfl (Ok.bind (Ok.opt (a := zs.map fun z => ((.frz, .str z) : SD)) ?_ (Ok.pure ⟨g4, .lst .frz, [], zs, [], none, none, none, none, k4, .inr rfl, rfl, rfl, fun p hp => (by cases hp), rfl, rfl⟩)))
      show some ((zs.map D.str).map fun d => ((.frz, d) : SD)) = _
      rw [List.map_map]
      rfl
    · rintro x xs e ⟨g5, s, pre, rest, dk, a, b, c, d, q1, q2, q3, q4, q5, q6, rfl⟩
      cases rest with
      | nil => cases q6
      | cons z rest =>
        injection q6 with e1 e2
        subst e1
        refine Ok.of (a := ()) (e := en g5 s dk (some (.frz, .int (pre.length : Int))) (some (.frz, .str z)) c d) rfl ?_
        generalize hpl : ((.frz, .int (pre.length : Int)) : SD) = XK
        refine seq (fun e => ∃ (g6 : Bag) (way : Int), g6.ok ∧ e = en g6 s dk (some XK) (some (.frz, .str z)) (some (.frz, .int way)) d) ?_ ?_
        · refine st_set (ev_app2 (ev_lst (evG_cons (ev_take S rfl q1 Ev.cst (by decide) (by decide) fun v1 g6 _ _ k6 => ⟨_, rfl, evG_cons (ev_take S rfl k6 Ev.cst (by decide) (by decide) fun v2 g7 _ _ k7 => ⟨_, rfl, evG_cons (ev_cst ⟨_, rfl, evG_cons (ev_cst ⟨_, rfl, evG_cons (ev_cst ⟨_, rfl, evG_cons ((Ev.app1 (o := .int) (Ev.app2 (o := .ge) (x := XK) (Ev.pl (p := .var 8) rfl) (Ev.pl (p := .var 3) rfl) (by subst hpl; rfl)) rfl).ok ⟨_, rfl, evG_nil (ev_pl rfl ?_)⟩)⟩)⟩)⟩)⟩)⟩))))
          obtain ⟨w, hw⟩ : ∃ w : Int, ([v1, v2, 1, 2, 3, if decide ((m : Int) ≤ (pre.length : Int)) = true then 1 else 0] : List Int)[sty]? = some w := ⟨_, List.getElem?_eq_getElem (by show sty < 6; omega)⟩
          refine ⟨(.frz, .int w), ?_, _, rfl, g7, w, k7, rfl⟩
          show (itemOf (.lst .frz, .lst [.int v1, .int v2, .int 1, .int 2, .int 3, .int (if decide ((m : Int) ≤ (pre.length : Int)) = true then 1 else 0)]) (.int (sty : Int))).bind share = _
          rw [list_at (d := .int w) (.inr rfl) (by
            have := congrArg (Option.map D.int) hw
            rw [← List.getElem?_map] at this
            exact this)]
          rfl
        rintro _ ⟨g6, way, k6, rfl⟩
        refine seq (fun e => ∃ (g7 : Bag) (t : Sh) (cs : List Str), g7.ok ∧ (t = .frz ∨ t = .lst .frz) ∧ CrewOk ws cs ∧ e = en g7 .frz dk (some XK) (some (.frz, .str z)) (some (.frz, .int way)) (some (t, strsD cs))) ?_ ?_
        · refine st_set (ev_crew (t := .frz) S rfl hokw hws.nd (by omega) (by omega) (ev_fz (s := s) rfl (own q2).1 (own q2).2 ⟨rfl, ev_pl rfl ⟨g6, rfl, k6, rfl, fun g7 t cs p1 p2 p3 => ⟨(t, strsD cs), ?_, g7, t, cs, p1, p2, p3, rfl⟩⟩⟩))
          rcases p2 with rfl | rfl <;> rfl
        rintro _ ⟨g7, t, cs, k7, ht, hcs, rfl⟩
        refine seq (fun e => ∃ (t : Sh) (cs : List Str), (t = .frz ∨ t = .lst .frz) ∧ CrewOk ws cs ∧ e = en g7 .frz dk (some XK) (some (.frz, .str z)) (some (.frz, .int way)) (some (t, strsD cs))) ?_ ?_
        · have hc : Ev P.sg (callD P (n + 3)) (en g7 .frz dk (some XK) (some (.frz, .str z)) (some (.frz, .int way)) (some (t, strsD cs))) _ _ := Ev.and (Ev.app2 (o := .eq) (x := (.frz, .int (sty : Int))) (Ev.pl (p := .var 6) rfl) (Ev.cst (d := .int 5)) eq_int) (Ev.app2 (o := .lt) (x := XK) (y := (.frz, .int (m : Int))) (r := (.frz, .bl (decide ((pre.length : Int) < (m : Int))))) (Ev.pl (p := .var 8) rfl) (Ev.pl (p := .var 3) rfl) (by subst hpl; rfl)) rfl
          by_cases h : (decide ((sty : Int) = 5) && decide ((pre.length : Int) < (m : Int))) = true
          rotate_left
          · have h' : (decide ((sty : Int) = 5) && decide ((pre.length : Int) < (m : Int))) = false := by simpa using h
            rw [h'] at hc
            exact ife_no hc ⟨t, cs, ht, hcs, rfl⟩
          · rw [h] at hc
            have hlt : pre.length < ws.length := by
              have := of_decide_eq_true (Bool.and_eq_true_iff.mp h).2
              omega
            obtain ⟨w, hw⟩ : ∃ w, ws[pre.length]? = some w := ⟨_, List.getElem?_eq_getElem hlt⟩
            have iw : itemOf (.frz, strsD ws) (.int (pre.length : Int)) = some (.frz, .str w) := list_at (.inl rfl) (by rw [List.getElem?_map, hw]; rfl)
            refine ife_yes hc (seq (fun e => e = en g7 .frz dk (some XK) (some (.frz, .str z)) (some (.frz, .int way)) (some (.lst .frz, strsD [w]))) (st_set (ev_lst (evG_cons (ev_pl (x := (.frz, .str w)) ?_ ⟨_, rfl, evG_nil ⟨_, rfl, rfl⟩⟩)))) ?_)
            · subst hpl
              exact iw
            · rintro _ rfl
              exact ss_nil ⟨.lst .frz, [w], .inr rfl, ⟨by simp, by simp, fun c hc => by rw [List.mem_singleton.mp hc]; exact List.mem_of_getElem? hw⟩, rfl⟩
        rintro _ ⟨t, cs, ht, hcs, rfl⟩
        refine ss_cons (st_exp (ev_mut rfl rfl (evG_cons (ev_tup (evG_cons (ev_fz rfl rfl rfl ⟨_, rfl, evG_cons (ev_fz (s := t) rfl (own ht).1 (own ht).2 ⟨_, rfl, evG_nil ⟨(.frz, .tup [.str z, strsD cs]), rfl, evG_nil ⟨(.frz, .non), (.lst .frz, .lst (dk.map dskD ++ [dskD (z, cs)])), _, ?_, rfl, ?_⟩⟩⟩)⟩))))))
        · refine if_pos ?_
          have hle : dk.length ≤ 61 := by
            have h1 := congrArg List.length q3
            have h2 := congrArg List.length q4
            have h3 := hzs.len
            rw [List.length_append] at h1
            rw [List.length_map] at h2
            omega
          rw [List.length_map, sizeLine_eq]
          simp only [Bool.and_eq_true, decide_eq_true_eq]
          exact ⟨rfl, by omega⟩
        · refine ss_nil ⟨g7, .frz, pre ++ [z], rest, dk ++ [(z, cs)], some XK, some (.frz, .str z), some (.frz, .int way), some (.frz, strsD cs), k7, .inl rfl, by rw [List.append_assoc]; exact q3, by rw [List.map_append, q4]; rfl, fun p hp => ?_, ?_, ?_⟩
          · rcases List.mem_append.mp hp with hp | hp
            · exact q5 p hp
            · rw [List.mem_singleton.mp hp]
              exact hcs
          · rw [List.length_append, List.length_singleton]
            exact e2
          · show _ = [some (bg g7), some M, some K, some (.frz, .int (m : Int)), some (.frz, strsD ws), some (.lst .frz, strsD zs), some (.frz, .int (sty : Int)), some (.lst .frz, .lst ((dk ++ [(z, cs)]).map dskD)), some XK, some (.frz, .str z), some (.frz, .int way), some (.frz, strsD cs)]
            rw [List.map_append]
            rfl
    · rintro e ⟨g5, s, pre, rest, dk, a, b, c, d, q1, q2, q3, q4, q5, q6, rfl⟩
      cases rest with
      | nil =>
        rw [List.append_nil] at q3
        exact ⟨g5, s, dk, a, b, c, d, q1, q2, by rw [q4, q3], q5, rfl⟩
      | cons _ _ => cases q6
  rintro _ ⟨g5, s, dk, a, b, c, d, k5, hs, hdk, hcr, rfl⟩
  have hlen : dk.length = q := by
    rw [← hzs.len, ← hdk, List.length_map]
  refine seq (fun e => ∃ (g6 : Bag) (dk' : List (Str × List Str)), g6.ok ∧ dk'.map (·.1) = zs ∧ (∀ p ∈ dk', CrewOk ws p.2) ∧ e = en g6 s dk' a b c d) ?_ ?_
  · have hgt : Ev P.sg (callD P (n + 3)) (en g5 s dk a b c d) (.app .gt (.cons (.app .len (.cons (.pl (.var 7)) .nil)) (.cons (.cst (.int (1))) .nil))) (.frz, .bl (decide ((1 : Int) < ((dk.map dskD).length : Int)))) := Ev.app2 (Ev.app1 (x := (.lst .frz, .lst (dk.map dskD))) (Ev.pl rfl) rfl) Ev.cst rfl
    refine st_ifeX (ev_and (k := decide ((1 : Int) < ((dk.map dskD).length : Int))) (hgt.ok ⟨rfl, ?_⟩))
    by_cases h2 : (1 : Int) < ((dk.map dskD).length : Int)
    rotate_left
    · rw [if_neg (by rw [decide_eq_true_eq]; exact h2)]
      exact ⟨false, rfl, ss_nil ⟨g5, dk, k5, hdk, hcr, rfl⟩⟩
    rw [if_pos (decide_eq_true h2)]
    refine ev_app2 (ev_take S rfl k5 Ev.cst (by decide) (by decide) fun v g6 v0 v1 k6 => ev_cst ⟨_, eq_int, _, rfl, decide (v = 0), rfl, ?_⟩)
    by_cases hv : v = 0
    rotate_left
    · rw [decide_eq_false hv]
      exact ss_nil ⟨g6, dk, k6, hdk, hcr, rfl⟩
    rw [decide_eq_true hv]
    rw [List.length_map] at h2
    obtain ⟨f, tl, ef⟩ : ∃ f tl, dk = f :: tl := by
      cases dk with
      | nil => simp at h2
      | cons f tl => exact ⟨f, tl, rfl⟩
    obtain ⟨ini, la, el⟩ : ∃ ini la, dk = ini ++ [la] := ⟨dk.dropLast, dk.getLast (by rw [ef]; simp), (List.dropLast_concat_getLast _).symm⟩
    have pl1 : itemOf (.lst .frz, .lst (dk.map dskD)) (.int (-1)) = some (.frz, dskD la) := by
      show (atD (dk.map dskD) (-1)).map _ = _
      rw [show atD (dk.map dskD) (-1) = some (dskD la) by rw [el, List.map_append]; exact L2.atI_last _ _]
      rfl
    have pl0 : itemOf (.lst .frz, .lst (dk.map dskD)) (.int 0) = some (.frz, dskD f) := list_at (k := 0) (.inr rfl) (by rw [ef]; rfl)
    have hset : ∀ x : D, itemSet (.lst .frz, .lst (dk.map dskD)) (.int (-1)) x = some (.lst .frz, .lst ((dk.map dskD).set (dk.length - 1) x)) := fun x => by
      show (ixN (dk.map dskD).length (-1)).map (fun j => ((.lst .frz, .lst ((dk.map dskD).set j x)) : SD)) = _
      have : ixN (dk.map dskD).length (-1) = some (dk.length - 1) := by
        show (if (0 : Int) ≤ -1 then _ else if -((dk.map dskD).length : Int) ≤ -1 then some (-1 + ((dk.map dskD).length : Int)).toNat else none) = _
        rw [if_neg (by decide), if_pos (by rw [List.length_map]; omega), List.length_map]
        congr 1
        omega
      rw [this]
      rfl
    refine seq (fun e => ∃ (g7 : Bag) (es : List D), g7.ok ∧ es.Perm (f.2.map .str) ∧ e = [some (bg g7), some M, some K, some (.frz, .int (m : Int)), some (s, strsD ws), some (.lst .frz, strsD zs), some (.frz, .int (sty : Int)), some (.lst .frz, .lst ((dk.map dskD).set (dk.length - 1) (.tup [.str la.1, .lst es]))), a, b, c, d]) ?_ ?_
    · refine st_seti (ev_tup (evG_cons (ev_pl (x := (.frz, .str la.1)) ?_ ⟨_, rfl, evG_cons (ev_mixed (g0 := g6) S rfl (ev_pl (x := (.frz, strsD f.2)) ?_ ⟨g6, f.2.map .str, rfl, k6, ?_, rfl, fun g7 es p1 p2 => ⟨_, rfl, evG_nil ⟨_, _, rfl, rfl, (Ev.app1 (o := .neg) (Ev.cst (d := .int 1)) rfl).ok ⟨_, _, rfl, hset _, rfl, g7, es, p1, p2, rfl⟩⟩⟩⟩))⟩)))
      · show (itemOf (.lst .frz, .lst (dk.map dskD)) (.int (-1))).bind _ = _
        rw [pl1]
        rfl
      · show (itemOf (.lst .frz, .lst (dk.map dskD)) (.int 0)).bind _ = _
        rw [pl0]
        rfl
      · have := (hcr f (by rw [ef]; exact .head _))
        have hle : f.2.length ≤ ws.length := nodup_len f.2 ws this.nd this.sub
        rw [List.length_map]
        omega
    · rintro _ ⟨g7, es, p1, p2, rfl⟩
      obtain ⟨cs', rfl, pc⟩ := perm_strs p2
      have e1 : (dk.map dskD).set (dk.length - 1) (.tup [.str la.1, .lst (cs'.map .str)]) = (dk.set (dk.length - 1) (la.1, cs')).map dskD := by
        rw [List.map_set]
        rfl
      refine ss_nil ⟨g7, dk.set (dk.length - 1) (la.1, cs'), p1, ?_, fun p hp => ?_, by rw [e1]⟩
      · rw [← hdk, List.map_set]
        have : (dk.map (·.1))[dk.length - 1]? = some la.1 := by
          rw [el, List.map_append, List.getElem?_append_right (by rw [List.length_map, List.length_append, List.length_singleton]; omega)]
          simp
        refine List.ext_getElem? fun i => ?_
        by_cases hi : dk.length - 1 = i
        · rw [← hi, List.getElem?_set_self (by rw [List.length_map]; omega), this]
        · rw [List.getElem?_set_ne hi]
      · rcases List.mem_or_eq_of_mem_set hp with hp | rfl
        · exact hcr p hp
        · exact crew_perm (hcr f (by rw [ef]; exact .head _)) pc
  rintro _ ⟨g6, dk', k6, hdk', hcr', rfl⟩
  have hl2 : dk'.length = q := by
    rw [← hzs.len, ← hdk', List.length_map]
  refine ss_cons (st_ret (ev_tup (evG_cons (ev_mixed (g0 := g6) S rfl (ev_fz (s := s) rfl (own hs).1 (own hs).2 ⟨g6, ws.map .str, rfl, k6, by rw [List.length_map]; omega, rfl, fun g7 es p1 p2 => ⟨_, rfl, evG_cons (ev_mixed (g0 := g7) S rfl (ev_fz rfl rfl rfl ⟨g7, dk'.map dskD, rfl, p1, by rw [List.length_map]; omega, rfl, fun g8 es2 p3 p4 => ⟨_, rfl, evG_nil ⟨_, rfl, ?_⟩⟩⟩))⟩⟩)))))
  obtain ⟨ws', rfl, pw⟩ := perm_strs p2
  obtain ⟨dk2, rfl, pd⟩ := perm_map_inv p4 dk' rfl
  refine ⟨g8, ws', dk2, p3, ⟨?_, ?_, fun w hw => hws.nm w (pw.mem_iff.mp hw), pw.nodup_iff.mpr hws.nd, ?_, fun p hp => ?_, ?_, fun p hp => ?_⟩, rfl, rfl⟩
  · rw [pw.length_eq]
    omega
  · rw [pw.length_eq]
    omega
  · rw [pd.length_eq]
    omega
  · refine hzs.nm p.1 ?_
    rw [← hdk']
    exact List.mem_map.mpr ⟨p, pd.mem_iff.mp hp, rfl⟩
  · refine (pd.map (·.1)).nodup_iff.mpr ?_
    rw [hdk']
    exact hzs.nd
  · have := hcr' p (pd.mem_iff.mp hp)
    exact ⟨this.ne, this.nd, fun c hc => pw.mem_iff.mpr (this.sub c hc)⟩
theorem sized_ok (S : Std P) {g : Bag} (hg : g.ok) : ∃ (g' : Bag) (ws : List Str) (dk : List (Str × List Str)), g'.ok ∧ PartsOk ws dk ∧ callD P (n + 5) 7 [bg g] = some (.ok (.frz, partsD ws dk) [some (bg g')]) := by
  suffices h : ∃ r outs, callD P (n + 5) 7 [bg g] = some (.ok r outs) ∧ ∃ (g' : Bag) (ws : List Str) (dk : List (Str × List Str)), g'.ok ∧ PartsOk ws dk ∧ r = (.frz, partsD ws dk) ∧ outs = [some (bg g')] by
    obtain ⟨r, outs, hc, g', ws, dk, k1, k2, rfl, rfl⟩ := h
    exact ⟨g', ws, dk, k1, k2, hc⟩
  refine call_ok S.d7 ?_
  rw [S.m7]
  show Ok (sts P.sg (callD P (n + 4)) sized_c) [some (bg g), none, none] _
  refine seq (fun e => ∃ (g1 : Bag) (a b : Nat), g1.ok ∧ 1 ≤ a ∧ a ≤ 40 ∧ b ≤ 60 ∧ e = [some (bg g1), some (.frz, .int (a : Int)), some (.frz, .int (b : Int))]) ?_ ?_
  · let tb : List (Nat × Nat) := [(5, 7), (5, 7), (8, 12), (40, 60)]
    let tD : List D := tb.map fun p => .tup [.int (p.1 : Int), .int (p.2 : Int)]
    have hl : Ok (ev P.sg (callD P (n + 4)) (.lst .frz (.cons (.tup (.cons (.cst (.int (5))) (.cons (.cst (.int (7))) .nil))) (.cons (.tup (.cons (.cst (.int (5))) (.cons (.cst (.int (7))) .nil))) (.cons (.tup (.cons (.cst (.int (8))) (.cons (.cst (.int (12))) .nil))) (.cons (.tup (.cons (.cst (.int (40))) (.cons (.cst (.int (60))) .nil))) .nil)))))) [some (bg g), none, none] fun r e => r = (.lst .frz, .lst tD) ∧ e = [some (bg g), none, none] := ⟨_, _, rfl, rfl, rfl⟩
    refine st_asg (ev_app2 (hl.mono fun r e ⟨e1, e2⟩ => ?_))
    subst e1 e2
    refine ev_take S rfl hg Ev.cst (by decide) (by decide) fun v g1 v0 v1 k1 => ?_
    obtain ⟨j, rfl⟩ : ∃ j : Nat, v = j := ⟨v.toNat, by omega⟩
    have hj : j < 4 := by omega
    obtain ⟨pr, hpr⟩ : ∃ pr, tb[j]? = some pr := ⟨_, List.getElem?_eq_getElem (by show j < 4; exact hj)⟩
    refine ⟨(.frz, .tup [.int (pr.1 : Int), .int (pr.2 : Int)]), ?_, _, rfl, Ok.of (a := ()) rfl ⟨g1, pr.1, pr.2, k1, ?_⟩⟩
    · show (itemOf (.lst .frz, .lst tD) (.int (j : Int))).bind share = _
      rw [list_at (.inr rfl) (by rw [List.getElem?_map, hpr]; rfl)]
      rfl
    · have hm := List.mem_of_getElem? hpr
      have : ∀ p ∈ tb, 1 ≤ p.1 ∧ p.1 ≤ 40 ∧ p.2 ≤ 60 := by decide
      obtain ⟨t1, t2, t3⟩ := this pr hm
      exact ⟨t1, t2, t3, rfl⟩
  rintro _ ⟨g1, a, b, k1, a1, a40, b60, rfl⟩
  obtain ⟨g2, ws, dk, k2, hp, hc⟩ := parts_ok (n := n) S k1 a1 a40 b60
  refine ss_cons (st_ret (ev_call S.m6 (evC_io (x := bg g1) rfl (evC_val rfl (ev_pl rfl ⟨_, rfl, evC_val rfl (ev_pl rfl ⟨_, rfl, evC_nil ⟨_, _, _, _, rfl, hc, rfl, rfl, _, rfl, g2, ws, dk, k2, hp, rfl, rfl⟩⟩)⟩)))))
end DI.PL
/-! PL11: is_name, are_names, is_desk. -/
namespace DI.PL
open PySem DI
/-- the program's defs that nearly all laws reach -/
structure Std2 (P : Prog) : Prop extends Std P where
  d8 : P.defs 8 = some (roster_n, roster_c)
  m8 : P.sg.modes 8 = [.bor]
  d9 : P.defs 9 = some (alike_n, alike_c)
  m9 : P.sg.modes 9 = [.bor, .bor]
  d10 : P.defs 10 = some (isName_n, isName_c)
  m10 : P.sg.modes 10 = [.bor]
  d11 : P.defs 11 = some (areNames_n, areNames_c)
  m11 : P.sg.modes 11 = [.bor]
  d12 : P.defs 12 = some (isDesk_n, isDesk_c)
  m12 : P.sg.modes 12 = [.bor, .bor]
  d13 : P.defs 13 = some (init_n, init_c)
  m13 : P.sg.modes 13 = [.io, .bor, .bor]
  i0 : P.sg.init 0 = 13
  g0 : P.sg.gd 0 0 = true
  g1 : P.sg.gd 0 1 = true
variable {P : Prog} {n : Nat}
section
variable {sg : Sig} {cl : Calls} {env : Env}
theorem takeAs_frz {e : E} {d : D} : takeAs .frz e (.frz, d) = some (.frz, d) := by
  unfold takeAs DI.take
  cases e.place <;> rfl
theorem bls_true {α : Type} : ∀ xs : List α, blsOf (xs.map fun _ => D.bl true) = some (xs.map fun _ => true)
  | [] => rfl
  | x :: xs => by
    show (blsOf (xs.map fun _ => D.bl true)).map _ = _
    rw [bls_true xs]
    rfl
theorem all_id {α : Type} : ∀ xs : List α, (xs.map fun _ => true).all id = true
  | [] => rfl
  | x :: xs => all_id xs
theorem set_same {o : Nat} {x y : Option SD} (h : (env.set o x).set o none = env.set o none) : (env.set o x).set o none = env.set o none := h
/-- a block over one name -/
theorem lc_nm {o : Nat} {it : It} {ifs : Es} {elt : E} {s : Sh} {xs : List SD} (p : SD → Bool) (f : SD → D) (h : its sg cl it env = some (.ok xs env)) (hl : xs.length ≤ 1000)
    (step : ∀ x ∈ xs, Ok (cond sg cl ifs) (env.set o (some x)) fun b e3 => b = p x ∧ e3.set o none = env.set o none ∧ (p x = true → Ok (ev sg cl elt) e3 fun r e4 => ∃ q, takeAs s elt r = some q ∧ q.2 = f x ∧ e4.set o none = env.set o none)) :
    Ev sg cl env (.lc [o] (.nm o) it ifs elt s) (.lst s, .lst ((xs.filter p).map f)) := by
  refine lc_pure p f h (Nat.le_trans hl (by rw [sizeLine_eq]; omega)) fun x hx e he => Ok.of (a := ()) (e := env.set o (some x)) ?_ (step x hx)
  have hw : wipeE [o] env = env.set o none := rfl
  show some (Out.ok () ((wipeE [o] e).set o _)) = _
  rw [he, hw, List.set_set]
/-- all of a block that says yes of each -/
theorem Ev.all {o : Nat} {it : It} {elt : E} {xs : List SD} (h : its sg cl it env = some (.ok xs env)) (hl : xs.length ≤ 1000)
    (step : ∀ x ∈ xs, Ev sg cl (env.set o (some x)) elt (.frz, .bl true)) :
    Ev sg cl env (.app .all (.cons (.lc [o] (.nm o) it .nil elt .frz) .nil)) (.frz, .bl true) := by
  refine Ev.app1 (lc_nm (fun _ => true) (fun _ => .bl true) h hl fun x hx => Ok.pure ⟨rfl, List.set_set .., fun _ => (step x hx).ok ⟨(.frz, .bl true), takeAs_frz, rfl, List.set_set ..⟩⟩) ?_
  rw [List.filter_eq_self.mpr (fun _ _ => rfl)]
  show (blsOf (xs.map fun _ => D.bl true)).bind _ = _
  rw [bls_true]
  show sc (.bl ((xs.map fun _ => true).all id)) = _
  rw [all_id]
  rfl
theorem Ev.nilL {s : Sh} : Ev sg cl env (.lst s .nil) (.lst s, .lst []) := rfl
theorem its_ev {e : E} {x : SD} {xs : List SD} (h : Ev sg cl env e x) (hi : itemsOf e.place x = some xs) : its sg cl (.e e) env = some (.ok xs env) := by
  obtain ⟨a, e', h1, rfl, rfl⟩ := its_e (Q := fun a e' => a = xs ∧ e' = env) (h.ok ⟨xs, hi, rfl, rfl⟩)
  exact h1
theorem Ev.chn {o p : Op} {a b c : E} {x y z : SD} {s : Sh} {r : SD} (ha : Ev sg cl env a x) (hb : Ev sg cl env b y) (hc : Ev sg cl env c z) (h1 : sem2 o x y = some (s, .bl true)) (h2 : sem2 p y z = some r) : Ev sg cl env (.chn o p a b c) r := by
  obtain ⟨r', e, h1, rfl, rfl⟩ : Ok (ev sg cl (.chn o p a b c)) env fun r' e => r' = r ∧ e = env :=
    Ok.bind (ha.ok (Ok.bind (hb.ok (Ok.bind (Ok.opt h1 (Ok.bind (Ok.opt (a := true) rfl (Ok.bind (hc.ok (Ok.opt h2 ⟨rfl, rfl⟩)))))))))) 
  exact h1
end
theorem sem_in {s t : Sh} {a b : D} : sem2 .isIn (s, a) (t, b) = (isIn a b).bind fun c => sc (.bl c) := by cases a <;> cases b <;> rfl
theorem sem_notIn {s t : Sh} {a b : D} : sem2 .notIn (s, a) (t, b) = (isIn a b).bind fun c => sc (.bl (!c)) := by cases a <;> cases b <;> rfl
theorem letters_in {c : Nat} (h : 97 ≤ c ∧ c ≤ 122) : isIn (.str (T [c])) (.str letters) = some true := by
  have : ∀ k, k < 26 → isIn (.str (T [97 + k])) (.str letters) = some true := by decide +kernel
  have h2 := this (c - 97) (by omega)
  rwa [show 97 + (c - 97) = c by omega] at h2
/-- outs of a def that only borrows -/
theorem isName_ok (S : Std2 P) {z : Str} (hz : Nm z) : callD P (n + 1) 10 [(.frz, .str z)] = some (.ok (.frz, .bl true) [none]) := by
  suffices h : ∃ r outs, callD P (n + 1) 10 [(.frz, .str z)] = some (.ok r outs) ∧ r = (.frz, .bl true) ∧ outs = [none] by
    obtain ⟨r, outs, hc, rfl, rfl⟩ := h
    exact hc
  obtain ⟨l, rfl, l1, l8, hc⟩ := hz
  refine call_ok S.d10 ?_
  rw [S.m10]
  show Ok (sts P.sg (callD P n) isName_c) [some (.frz, .str (T l)), none] _
  have hs : l.length ≤ sizeLine := by rw [sizeLine_eq]; omega
  have hl : sem1 .len (.frz, .str (T l)) = some (.frz, .int (l.length : Int)) := by
    show (if (T l).length ≤ sizeLine then some (T l).length else none).bind _ = _
    rw [T_len, if_pos hs]
    rfl
  refine seq (fun e => e = [some (.frz, .str (T l)), none]) (ife_no (s := .frz) ?_ rfl) ?_
  · exact Ev.or (k := false) (k' := false) (Ev.not (k := true) (Ev.app1 (Ev.pl (p := .var 0) rfl) rfl)) (Ev.not (k := true) (s := .frz) (Ev.chn (x := (.frz, .int 1)) (y := (.frz, .int (l.length : Int))) (s := .frz) Ev.cst (Ev.app1 (Ev.pl (p := .var 0) rfl) hl) (Ev.glo (d := .int 8)) (by
        show sc (.bl (decide ((1 : Int) ≤ (l.length : Int)))) = _
        rw [decide_eq_true (by omega)]
        rfl) (by
        show sc (.bl (decide ((l.length : Int) ≤ 8))) = _
        rw [decide_eq_true (by omega)]
        rfl))) rfl
  · rintro _ rfl
    refine ss_cons (st_ret ((Ev.all (o := 1) (xs := l.map fun c => (.frz, .str (T [c]))) (its_ev (Ev.pl (p := .var 0) (x := (.frz, .str (T l))) rfl) ?_) (by rw [List.length_map]; omega) ?_).ok ⟨_, rfl, rfl, rfl⟩))
    · show (if (T l).length ≤ sizeLine then _ else none) = _
      rw [T_len, if_pos hs]
      rfl
    · intro x hx
      obtain ⟨c, hc1, rfl⟩ := List.mem_map.mp hx
      refine Ev.app2 (x := (.frz, .str (T [c]))) (Ev.pl (p := .var 1) rfl) (Ev.glo (d := .str letters)) ?_
      rw [sem_in, letters_in (hc c hc1)]
      rfl
theorem nodups_of : ∀ {l : List Str}, l.Nodup → nodups l = l
  | [], _ => rfl
  | x :: r, h => by
    have h1 := List.nodup_cons.mp h
    show (if x ∈ r then nodups r else x :: nodups r) = _
    rw [if_neg h1.1, nodups_of h1.2]
/-- .. of a call whose arguments are all lent -/
theorem ev_isName (S : Std2 P) {env : Env} {e : E} {z : Str} {s : Sh} (hz : Nm z) (h : Ev P.sg (callD P (n + 1)) env e (s, .str z)) : Ev P.sg (callD P (n + 1)) env (.call 10 (.cons e .nil)) (.frz, .bl true) := by
  obtain ⟨r', e, h1, rfl, rfl⟩ : Ok (ev P.sg (callD P (n + 1)) (.call 10 (.cons e .nil))) env fun r' e => r' = (.frz, .bl true) ∧ e = env :=
    ev_call S.m10 (evC_val rfl (h.ok ⟨.val (.frz, .str z), rfl, evC_nil ⟨_, _, _, _, rfl, isName_ok S hz, rfl, rfl, rfl, rfl⟩⟩))
  exact h1
theorem areNames_ok (S : Std2 P) {zs : List Str} (hz : ∀ z ∈ zs, Nm z) (hn : zs.Nodup) (hl : zs.length ≤ 1000) : callD P (n + 2) 11 [(.bor, strsD zs)] = some (.ok (.frz, .bl true) [none]) := by
  suffices h : ∃ r outs, callD P (n + 2) 11 [(.bor, strsD zs)] = some (.ok r outs) ∧ r = (.frz, .bl true) ∧ outs = [none] by
    obtain ⟨r, outs, hc, rfl, rfl⟩ := h
    exact hc
  refine call_ok S.d11 ?_
  rw [S.m11]
  show Ok (sts P.sg (callD P (n + 1)) areNames_c) [some (.bor, strsD zs), none] _
  refine seq (fun e => e = [some (.bor, strsD zs), none]) (ife_no (s := .frz) ?_ rfl) ?_
  · refine Ev.or (k := false) (k' := false) (Ev.not (k := true) (Ev.app1 (Ev.pl (p := .var 0) rfl) rfl)) (Ev.not (k := true) (s := .frz) (Ev.all (o := 1) (xs := zs.map fun z => (.frz, .str z)) (its_ev (Ev.pl (p := .var 0) (x := (.bor, strsD zs)) rfl) ?_) (by rw [List.length_map]; exact hl) ?_)) rfl
    · show some ((zs.map D.str).map _) = _
      rw [List.map_map]
      rfl
    · intro x hx
      obtain ⟨z, hz1, rfl⟩ := List.mem_map.mp hx
      exact ev_isName S (hz z hz1) (Ev.pl (p := .var 1) rfl)
  · rintro _ rfl
    refine ss_cons (st_ret ((Ev.app2 (o := .eq) (x := (.frz, .int (zs.length : Int))) (y := (.frz, .int (zs.length : Int))) (Ev.app1 (Ev.pl (p := .var 0) (x := (.bor, strsD zs)) rfl) ?_) (Ev.app1 (Ev.pl (p := .var 0) (x := (.bor, strsD zs)) rfl) ?_) eq_int).ok ⟨_, rfl, ?_, rfl⟩))
    · show (strsOf (zs.map .str)).bind _ = _
      rw [strs_map]
      show (if zs.length ≤ 4000 then _ else none) = _
      rw [if_pos (by omega), nodups_of ((List.reverse_perm zs).nodup_iff.mpr hn), List.length_reverse]
      rfl
    · show sc (.int (((zs.map D.str).length : Nat) : Int)) = _
      rw [List.length_map]
      rfl
    · rw [decide_eq_true rfl]
theorem ev_areNames (S : Std2 P) {env : Env} {e : E} {zs : List Str} {s : Sh} (hz : ∀ z ∈ zs, Nm z) (hn : zs.Nodup) (hl : zs.length ≤ 1000) (h : Ev P.sg (callD P (n + 2)) env e (s, strsD zs)) (hs : (e.place || s.isB || noB s) = true) :
    Ev P.sg (callD P (n + 2)) env (.call 11 (.cons e .nil)) (.frz, .bl true) := by
  obtain ⟨r', e, h1, rfl, rfl⟩ : Ok (ev P.sg (callD P (n + 2)) (.call 11 (.cons e .nil))) env fun r' e => r' = (.frz, .bl true) ∧ e = env :=
    ev_call S.m11 (evC_val rfl (h.ok ⟨.val (.bor, strsD zs), by
      show (if (strsD zs).scal = true then some (CA.val (.frz, strsD zs)) else if (e.place || s.isB || noB s) = true then some (CA.val (.bor, strsD zs)) else none) = _
      show (if (e.place || s.isB || noB s) = true then some (CA.val (.bor, strsD zs)) else none) = _
      rw [if_pos hs], evC_nil ⟨_, _, _, _, rfl, areNames_ok S hz hn hl, rfl, rfl, rfl, rfl⟩⟩))
  exact h1
/-- texts within lists -/
theorem toPys_strs : ∀ zs : List Str, toPys (zs.map .str) = some (zs.map .str)
  | [] => rfl
  | z :: zs => by
    show (toPys (zs.map .str)).map _ = _
    rw [toPys_strs zs]
    rfl
theorem shaped_strs {zs : List Str} (h : ∀ z ∈ zs, okS z) : SeqAt.shaped (.list (zs.map .str)) = true := by
  have h1 : ∀ zs : List Str, (∀ z ∈ zs, okS z) → PyData.canLayAll0 (zs.map .str) = true := by
    intro zs
    induction zs with
    | nil => intro _; rfl
    | cons z zs ih =>
      intro h
      show (PyData.canLay0 (.str z) && PyData.canLayAll0 (zs.map .str)) = true
      rw [ih fun y hy => h y (.tail _ hy), SeqAt.canLay_of_shaped (h z (.head _))]
      rfl
  have h3 : ∀ zs : List Str, PyData.depthAll (zs.map .str) ≤ 0 := by
    intro zs
    induction zs with
    | nil => exact Nat.le_refl 0
    | cons z zs ih => exact Nat.max_le.mpr ⟨Nat.le_refl 0, ih⟩
  have h2 : PyData.depth (.list (zs.map .str)) ≤ 64 := by
    have := h3 zs
    show PyData.depthAll (zs.map .str) + 1 ≤ 64
    omega
  unfold SeqAt.shaped
  rw [decide_eq_true h2]
  show (PyData.canLayAll0 (zs.map .str) && true) = true
  rw [h1 zs h]
  rfl
theorem in_strs {z : Str} {zs : List Str} (h : ∀ z ∈ zs, okS z) (hz : okS z) : isIn (.str z) (strsD zs) = some (decide (z ∈ zs)) := by
  show (match toPy (.str z), toPys (zs.map .str) with
    | some p, some ps => if (SeqAt.shaped p && SeqAt.shaped (.list ps)) = true then some (ps.any fun q => PyData.eqv q p) else none
    | _, _ => none) = _
  rw [toPys_strs]
  show (if (SeqAt.shaped (.str z) && SeqAt.shaped (.list (zs.map .str))) = true then some ((zs.map PyData.str).any fun q => PyData.eqv q (.str z)) else none) = _
  rw [if_pos (by rw [shaped_strs h, show SeqAt.shaped (.str z) = true from hz]; rfl), List.any_map]
  congr 1
  rw [Bool.eq_iff_iff, List.any_eq_true, decide_eq_true_eq]
  constructor
  · rintro ⟨x, h1, h2⟩
    have : x = z := by
      have : (x == z) = true := h2
      simpa using this
    rwa [← this]
  · intro h1
    refine ⟨z, h1, ?_⟩
    show (z == z) = true
    simp
/-- a desk of a roster: its crew are names, each once, some, all workers -/
theorem dsk_get0 {gd : Nat → Nat → Bool} {env : Env} {i : Nat} {s : Sh} {z : Str} {cs : List Str} (hs : s = .frz ∨ s = .bor) (h : env[i]? = some (some (s, dskD (z, cs)))) : (Pl.ix (.var i) (.cst (.int 0))).get gd env = some (s, .str z) := by
  show ((match env[i]? with | some (some x) => some x | _ => none : Option SD).bind fun x => itemOf x (.int 0)) = _
  rw [h]
  rcases hs with rfl | rfl <;> rfl
theorem dsk_get1 {gd : Nat → Nat → Bool} {env : Env} {i : Nat} {s : Sh} {z : Str} {cs : List Str} (hs : s = .frz ∨ s = .bor) (h : env[i]? = some (some (s, dskD (z, cs)))) : (Pl.ix (.var i) (.cst (.int 1))).get gd env = some (s, strsD cs) := by
  show ((match env[i]? with | some (some x) => some x | _ => none : Option SD).bind fun x => itemOf x (.int 1)) = _
  rw [h]
  rcases hs with rfl | rfl <;> rfl
theorem eqv_strsN {cs : List Str} (h : ∀ z ∈ cs, okS z) (hn : cs ≠ []) : eqvD (strsD cs) (.lst []) = some false := by
  show (match toPy (strsD cs), toPy (.lst []) with
    | some x, some y => if (SeqAt.shaped x && SeqAt.shaped y) = true then some (PyData.eqv x y) else none
    | _, _ => none) = _
  rw [show toPy (strsD cs) = some (.list (cs.map .str)) by show (toPys (cs.map .str)).map _ = _; rw [toPys_strs]; rfl]
  show (if (SeqAt.shaped (.list (cs.map .str)) && SeqAt.shaped (.list [])) = true then some (PyData.eqv (.list (cs.map .str)) (.list [])) else none) = _
  rw [if_pos (by rw [shaped_strs h]; rfl)]
  cases cs with
  | nil => exact absurd rfl hn
  | cons c cs => rfl
theorem isDesk_ok (S : Std2 P) {ws cs : List Str} {z : Str} {s : Sh} (hs : s = .frz ∨ s = .bor) (hw : ∀ w ∈ ws, Nm w) (hz : Nm z) (hc : CrewOk ws cs) (hl : cs.length ≤ 1000) : callD P (n + 3) 12 [(.bor, strsD ws), (s, dskD (z, cs))] = some (.ok (.frz, .bl true) [none, none]) := by
  suffices h : ∃ r outs, callD P (n + 3) 12 [(.bor, strsD ws), (s, dskD (z, cs))] = some (.ok r outs) ∧ r = (.frz, .bl true) ∧ outs = [none, none] by
    obtain ⟨r, outs, hc, rfl, rfl⟩ := h
    exact hc
  have hcn : ∀ c ∈ cs, Nm c := fun c h => hw c (hc.sub c h)
  refine call_ok S.d12 ?_
  rw [S.m12]
  show Ok (sts P.sg (callD P (n + 2)) isDesk_c) [some (.bor, strsD ws), some (s, dskD (z, cs)), none, none] _
  refine seq (fun e => e = [some (.bor, strsD ws), some (s, dskD (z, cs)), none, none]) (ife_no (s := .frz) ?_ rfl) ?_
  · exact Ev.or (k := false) (k' := false) (Ev.not (k := true) (Ev.app1 (Ev.pl (p := .var 1) rfl) rfl)) (Ev.or (k := false) (k' := false) (s := .frz) (Ev.app2 (x := (.frz, .int 2)) (Ev.app1 (Ev.pl (p := .var 1) rfl) rfl) (Ev.cst (d := .int 2)) ne_int) (Ev.not (k := true) (s := .frz) (ev_isName S hz (Ev.pl (dsk_get0 hs rfl)))) rfl) rfl
  rintro _ rfl
  refine seq (fun e => e = [some (.bor, strsD ws), some (s, dskD (z, cs)), some (s, strsD cs), none]) ?_ ?_
  · refine st_set ((Ev.pl (dsk_get1 hs rfl)).ok ⟨(s, strsD cs), ?_, rfl⟩)
    rcases hs with rfl | rfl <;> rfl
  rintro _ rfl
  have ha : Ev P.sg (callD P (n + 2)) [some (.bor, strsD ws), some (s, dskD (z, cs)), some (s, strsD cs), none] (.app .all (.cons (.lc [3] (.nm 3) (.e (.pl (.var 2))) .nil (.app .isIn (.cons (.pl (.var 3)) (.cons (.pl (.var 0)) .nil))) .frz) .nil)) (.frz, .bl true) := by
    refine Ev.all (o := 3) (xs := cs.map fun z => (.frz, .str z)) (its_ev (Ev.pl (p := .var 2) (x := (s, strsD cs)) rfl) ?_) (by rw [List.length_map]; exact hl) fun x hx => ?_
    · rcases hs with rfl | rfl
      · show some ((cs.map D.str).map _) = _
        rw [List.map_map]
        rfl
      · show some ((cs.map D.str).map _) = _
        rw [List.map_map]
        rfl
    · obtain ⟨c, hc1, rfl⟩ := List.mem_map.mp hx
      refine Ev.app2 (x := (.frz, .str c)) (y := (.bor, strsD ws)) (Ev.pl (p := .var 3) rfl) (Ev.pl (p := .var 0) rfl) ?_
      rw [sem_in, in_strs (fun w h => okS_nm (hw w h)) (okS_nm (hcn c hc1)), decide_eq_true (hc.sub c hc1)]
      rfl
  refine ss_cons (st_ret ((Ev.and (k := true) (k' := true) (s := .frz) (ev_areNames S hcn hc.nd hl (Ev.pl (p := .var 2) (x := (s, strsD cs)) rfl) rfl) (Ev.and (k := true) (k' := true) (s := .frz) (Ev.app2 (x := (s, strsD cs)) (y := (.lst .frz, .lst [])) (Ev.pl (p := .var 2) rfl) Ev.nilL ?_) ha rfl) rfl).ok ⟨_, rfl, rfl, rfl⟩))
  rw [sem_ne, eqv_strsN (fun c h => okS_nm (hcn c h)) hc.ne]
  rfl
end DI.PL
/-! PL12: a roster is made. -/
namespace DI.PL
open PySem DI
variable {P : Prog} {n : Nat}
section
variable {sg : Sig} {cl : Calls} {env : Env}
theorem ev_new {c : Nat} {as : Es} {ms : List Md} {Q : SD → Env → Prop} (hm : (sg.modes (sg.init c)).drop 1 = ms) (h : Ok (evC sg cl ms as) env fun cas e => ∃ args x outs e2, ioGets e cas = some args ∧ cl (sg.init c) ((.obj [], .obj c []) :: args) = some (.ok (.frz, .non) (some x :: outs)) ∧ x.1.given = true ∧ ioBack e cas outs = some e2 ∧ Q x e2) :
    Ok (ev sg cl (.new c as)) env Q := by
  subst hm
  refine Ok.bind (h.mono fun cas e ⟨args, x, outs, e2, h1, h2, h3, h4, q⟩ => ⟨x, e2, ?_, q⟩)
  dsimp only
  rw [h1]
  show (match cl (sg.init c) ((.obj [], .obj c []) :: args) with
    | some (.ok (.frz, .non) (some x :: outs)) => if x.1.given = true then (ioBack e cas outs).map fun e => Out.ok x e else none
    | _ => none) = _
  rw [h2]
  show (if x.1.given = true then _ else none) = _
  rw [if_pos h3, h4]
  rfl
theorem st_seta {p : Pl} {f : Nat} {e : E} {N : Env → Prop} {R : SD → Env → Prop} (h : Ok (ev sg cl e) env fun x e1 => ∃ x' y z z', DI.take e x = some x' ∧ p.get sg.gd e1 = some y ∧ attrPut sg.gd y f x' = some z ∧ p.up sg.gd e1 z = some z' ∧ N (e1.set p.root (some z'))) : Ok (st sg cl (.seta p f e)) env (Fin1 N R) := by
  refine Ok.bind (h.mono fun x e1 ⟨x', y, z, z', h1, h2, h3, h4, q⟩ => Ok.bind (Ok.opt h1 ⟨.nx, e1.set p.root (some z'), ?_, q⟩))
  dsimp only
  rw [h2]
  show (attrPut sg.gd y f x').bind _ = _
  rw [h3]
  show (p.up sg.gd e1 z).map _ = _
  rw [h4]
  rfl
end
theorem mem_insS (x a : Str) : ∀ l : List Str, a ∈ insS x l ↔ a = x ∨ a ∈ l
  | [] => by simp [insS]
  | y :: r => by
    unfold insS
    by_cases h : strLt y x = true
    · rw [if_pos h, List.mem_cons, mem_insS x a r, List.mem_cons]
      constructor
      · rintro (h | h | h)
        · exact .inr (.inl h)
        · exact .inl h
        · exact .inr (.inr h)
      · rintro (h | h | h)
        · exact .inr (.inl h)
        · exact .inl h
        · exact .inr (.inr h)
    · rw [if_neg h, List.mem_cons]
theorem perm_insS (x : Str) : ∀ l : List Str, (insS x l).Perm (x :: l)
  | [] => .refl _
  | y :: r => by
    unfold insS
    by_cases h : strLt y x = true
    · rw [if_pos h]
      exact ((perm_insS x r).cons y).trans (.swap ..)
    · rw [if_neg h]
theorem perm_sortS : ∀ l : List Str, (sortS l).Perm l
  | [] => .refl _
  | x :: r => (perm_insS x (sortS r)).trans ((perm_sortS r).cons x)
theorem mem_sortS {a : Str} {l : List Str} : a ∈ sortS l ↔ a ∈ l := (perm_sortS l).mem_iff
theorem sortD_strs {zs : List Str} (h : zs.length < 64) : sortD (zs.map .str) = some ((sortS zs).map .str) := by
  have h1 : sortA (zs.map .str) = some ((sortS zs).map .str) := by
    unfold sortA
    rw [strs_map]
    exact if_pos h
  unfold sortD
  rw [h1]
theorem all_strs : ∀ zs : List Str, (zs.map D.str).all D.scal = true
  | [] => rfl
  | z :: zs => all_strs zs
theorem kids_strs {s : Sh} {zs : List Str} : kids (s, strsD zs) = some (zs.map .str) := by
  show (if (s.kidsF || (zs.map D.str).all D.scal) = true then some (zs.map D.str) else none) = _
  rw [all_strs, Bool.or_true, if_pos rfl]
theorem list_strs {s : Sh} {zs : List Str} : sem1 .list (s, strsD zs) = some (.lst .frz, strsD zs) := by
  show (kids (s, strsD zs)).bind lit = _
  rw [kids_strs]
  rfl
theorem sorted_strs {s : Sh} {zs : List Str} (h : zs.length < 64) : sem1 .sorted (s, strsD zs) = some (.lst .frz, strsD (sortS zs)) := by
  show (kids (s, strsD zs)).bind (fun ds => (sortD ds).bind lit) = _
  rw [kids_strs]
  show (sortD (zs.map .str)).bind lit = _
  rw [sortD_strs h]
  rfl
/-- the table of the crews -/
def tabD (dk : List (Str × List Str)) : List (Key × D) := dk.map fun p => (.inr p.1, strsD (sortS p.2))
theorem putA_new {κ : Type} [DecidableEq κ] {k : κ} {v : D} : ∀ {l : List (κ × D)}, k ∉ l.map (·.1) → putA k v l = l ++ [(k, v)]
  | [], _ => rfl
  | (j, d) :: r, h => by
    have h1 : j ≠ k := fun e => h (by rw [List.map_cons, e]; exact .head _)
    show (if j = k then _ else (j, d) :: putA k v r) = _
    rw [if_neg h1, putA_new fun h2 => h (.tail _ h2)]
    rfl
theorem assoc_none {κ : Type} [DecidableEq κ] {k : κ} : ∀ {l : List (κ × D)}, k ∉ l.map (·.1) → assoc k l = none
  | [], _ => rfl
  | (j, d) :: r, h => by
    have h1 : j ≠ k := fun e => h (by rw [List.map_cons, e]; exact .head _)
    show (if j = k then some d else assoc k r) = _
    rw [if_neg h1, assoc_none fun h2 => h (.tail _ h2)]
theorem tab_keys (dk : List (Str × List Str)) : (tabD dk).map (·.1) = (dk.map (·.1)).map Sum.inr := by
  unfold tabD
  rw [List.map_map, List.map_map]
  rfl
theorem tab_notin {z : Str} {dk : List (Str × List Str)} (h : z ∉ dk.map (·.1)) : (Sum.inr z : Key) ∉ (tabD dk).map (·.1) := by
  rw [tab_keys]
  intro h2
  obtain ⟨a, h3, h4⟩ := List.mem_map.mp h2
  injection h4 with h4
  subst h4
  exact h h3
theorem tab_get : ∀ {dk : List (Str × List Str)} {p : Str × List Str}, (dk.map (·.1)).Nodup → p ∈ dk → assoc (Sum.inr p.1) (tabD dk) = some (strsD (sortS p.2))
  | q :: dk, p, hn, hp => by
    have hn' := List.nodup_cons.mp hn
    show (if (Sum.inr q.1 : Key) = Sum.inr p.1 then some (strsD (sortS q.2)) else assoc (Sum.inr p.1) (tabD dk)) = _
    rcases List.mem_cons.mp hp with rfl | h
    · rw [if_pos rfl]
    · rw [if_neg, tab_get hn'.2 h]
      intro e
      injection e with e
      exact hn'.1 (List.mem_map.mpr ⟨p, h, e.symm⟩)
abbrev rosD (ws : List Str) (dk : List (Str × List Str)) : D := .obj 0 [(0, strsD (sortS ws)), (1, .dic (tabD dk))]
abbrev rosS (ws : List Str) (dk : List (Str × List Str)) : SD := (.obj [(0, .lst .frz), (1, .frz)], rosD ws dk)
theorem crew_len {ws cs : List Str} (h : CrewOk ws cs) : cs.length ≤ ws.length := nodup_len cs ws h.nd h.sub
theorem init_ok (S : Std2 P) {ws : List Str} {dk : List (Str × List Str)} (h : PartsOk ws dk) : callD P (n + 4) 13 [(.obj [], .obj 0 []), (.bor, strsD ws), (.bor, .lst (dk.map dskD))] = some (.ok (.frz, .non) [some (rosS ws dk), none, none]) := by
  suffices hh : ∃ r outs, callD P (n + 4) 13 [(.obj [], .obj 0 []), (.bor, strsD ws), (.bor, .lst (dk.map dskD))] = some (.ok r outs) ∧ r = (.frz, .non) ∧ outs = [some (rosS ws dk), none, none] by
    obtain ⟨r, outs, hc, rfl, rfl⟩ := hh
    exact hc
  have hw := h.w40
  have hw1 := h.w1
  have hd := h.d60
  refine call_ok S.d13 ?_
  rw [S.m13]
  let en : SD → Option SD → Option SD → Option SD → Env := fun x a b c => [some x, some (.bor, strsD ws), some (.bor, .lst (dk.map dskD)), a, b, c]
  show Ok (sts P.sg (callD P (n + 3)) init_c) (en (.obj [], .obj 0 []) none none none) _
  have hlen : sem1 .len (.bor, strsD ws) = some (.frz, .int (ws.length : Int)) := by
    show sc (.int (((ws.map D.str).length : Nat) : Int)) = _
    rw [List.length_map]
    rfl
  have hlen2 : sem1 .len (.bor, .lst (dk.map dskD)) = some (.frz, .int (dk.length : Int)) := by
    show sc (.int (((dk.map dskD).length : Nat) : Int)) = _
    rw [List.length_map]
    rfl
  refine seq (fun e => e = en (.obj [], .obj 0 []) none none none) (ife_no (s := .frz) ?_ rfl) ?_
  · exact Ev.or (k := false) (k' := false) (s := .frz) (Ev.not (k := true) (s := .frz) (ev_areNames S h.wn h.wd (by omega) (Ev.pl (p := .var 1) (x := (.bor, strsD ws)) rfl) rfl)) (Ev.not (k := true) (s := .frz) (Ev.chn (x := (.frz, .int 1)) (y := (.frz, .int (ws.length : Int))) (s := .frz) Ev.cst (Ev.app1 (Ev.pl (p := .var 1) rfl) hlen) (Ev.glo (d := .int 40)) (by
        show sc (.bl (decide ((1 : Int) ≤ (ws.length : Int)))) = _
        rw [decide_eq_true (by omega)]
        rfl) (by
        show sc (.bl (decide ((ws.length : Int) ≤ 40))) = _
        rw [decide_eq_true (by omega)]
        rfl))) rfl
  rintro _ rfl
  refine seq (fun e => e = en (.obj [], .obj 0 []) none none none) (ife_no (s := .frz) ?_ rfl) ?_
  · refine Ev.or (k := false) (k' := false) (s := .frz) (t := .frz) (Ev.not (k := true) (s := .frz) (Ev.app1 (Ev.pl (p := .var 2) rfl) rfl)) (Ev.app2 (x := (.frz, .int (dk.length : Int))) (y := (.frz, .int 60)) (Ev.app1 (Ev.pl (p := .var 2) rfl) hlen2) (Ev.glo (d := .int 60)) ?_) rfl
    show sc (.bl (decide ((60 : Int) < (dk.length : Int)))) = _
    rw [decide_eq_false (by omega)]
    rfl
  rintro _ rfl
  refine seq (fun e => e = en (.obj [], .obj 0 []) (some (.dic .frz, .dic [])) none none) (st_set (Ok.of rfl ⟨_, rfl, rfl⟩)) ?_
  rintro _ rfl
  refine seq (fun e => ∃ b c, e = en (.obj [], .obj 0 []) (some (.dic .frz, .dic (tabD dk))) b c) ?_ ?_
  · refine st_for (fun rem e => ∃ (pre rest : List (Str × List Str)) (b c : Option SD), pre ++ rest = dk ∧ rem = enums pre.length (rest.map fun p => (.bor, dskD p)) ∧ e = en (.obj [], .obj 0 []) (some (.dic .frz, .dic (tabD pre))) b c) ?_ ?_ ?_
    · refine Ok.bind (ev_pl rfl ?_)
      refine Ok.ite rfl (Ok.bind (Ok.opt (a := dk.map fun p => ((.bor, dskD p) : SD)) ?_ (Ok.pure ⟨[], dk, none, none, rfl, rfl, rfl⟩)))
      show some ((dk.map dskD).map fun d => ((if d.scal = true then .frz else .bor, d) : SD)) = _
      rw [List.map_map]
      rfl
    · rintro x xs e ⟨pre, rest, b, c, q1, q2, rfl⟩
      cases rest with
      | nil => cases q2
      | cons p rest =>
        injection q2 with e1 e2
        subst e1
        refine Ok.of (a := ()) (e := en (.obj [], .obj 0 []) (some (.dic .frz, .dic (tabD pre))) (some (.frz, .int (pre.length : Int))) (some (.bor, dskD p))) rfl ?_
        have hp : p ∈ dk := by rw [← q1]; exact List.mem_append_right _ (.head _)
        have hcr := h.cr p hp
        have hcl := crew_len hcr
        have hnin : p.1 ∉ pre.map (·.1) := by
          have := h.dd
          rw [← q1, List.map_append, List.nodup_append] at this
          intro hm
          exact this.2.2 p.1 hm p.1 (.head _) rfl
        generalize hXK : (some ((.frz, .int (pre.length : Int)) : SD)) = XK
        have hprel : pre.length ≤ 60 := by
          have := congrArg List.length q1
          rw [List.length_append] at this
          omega
        have g0 : ∀ gd, (Pl.ix (.var 5) (.cst (.int 0))).get gd (en (.obj [], .obj 0 []) (some (.dic .frz, .dic (tabD pre))) XK (some (.bor, dskD p))) = some (.bor, .str p.1) := fun gd => dsk_get0 (.inr rfl) rfl
        have g1 : ∀ gd, (Pl.ix (.var 5) (.cst (.int 1))).get gd (en (.obj [], .obj 0 []) (some (.dic .frz, .dic (tabD pre))) XK (some (.bor, dskD p))) = some (.bor, strsD p.2) := fun gd => dsk_get1 (.inr rfl) rfl
        refine seq (fun e => e = en (.obj [], .obj 0 []) (some (.dic .frz, .dic (tabD pre))) XK (some (.bor, dskD p))) (ife_no (s := .frz) ?_ rfl) ?_
        · refine Ev.or (k := false) (k' := false) (s := .frz) (t := .frz) (Ev.not (k := true) (s := .frz) ?_) (Ev.app2 (x := (.bor, .str p.1)) (y := (.dic .frz, .dic (tabD pre))) (Ev.pl (g0 _)) (Ev.pl (p := .var 3) rfl) ?_) rfl
          · obtain ⟨r', e', h1, rfl, rfl⟩ : Ok (ev P.sg (callD P (n + 3)) (.call 12 (.cons (.pl (.var 1)) (.cons (.pl (.var 5)) .nil)))) (en (.obj [], .obj 0 []) (some (.dic .frz, .dic (tabD pre))) XK (some (.bor, dskD p))) fun r' e => r' = (.frz, .bl true) ∧ e = en (.obj [], .obj 0 []) (some (.dic .frz, .dic (tabD pre))) XK (some (.bor, dskD p)) :=
              ev_call S.m12 (evC_val rfl (ev_pl (x := (.bor, strsD ws)) rfl ⟨.val (.bor, strsD ws), rfl, evC_val rfl (ev_pl (x := (.bor, dskD p)) rfl ⟨.val (.bor, dskD p), rfl, evC_nil ⟨_, _, _, _, rfl, isDesk_ok S (.inr rfl) h.wn (h.dn p hp) hcr (by omega), rfl, rfl, rfl, rfl⟩⟩)⟩))
            exact h1
          · rw [sem_in]
            show (some (assoc (Sum.inr p.1 : Key) (tabD pre)).isSome).bind _ = _
            rw [assoc_none (tab_notin hnin)]
            rfl
        rintro _ rfl
        refine ss_cons (st_seti ((Ev.app1 (Ev.pl (g1 _)) (sorted_strs (by omega))).ok ⟨(.dic .frz, .dic (tabD pre)), (.frz, strsD (sortS p.2)), rfl, rfl, (Ev.pl (g0 _)).ok ⟨(.dic .frz, .dic (tabD (pre ++ [p]))), _, rfl, ?_, rfl, ss_nil ⟨pre ++ [p], rest, XK, _, by rw [List.append_assoc]; exact q1, ?_, rfl⟩⟩⟩))
        · show (if (tabD pre).length < sizeLine then some (((.dic .frz, .dic (putA (Sum.inr p.1 : Key) (strsD (sortS p.2)) (tabD pre))) : SD)) else none) = _
          have hl : (tabD pre).length < sizeLine := by
            unfold tabD
            rw [List.length_map, sizeLine_eq]
            omega
          rw [if_pos hl, putA_new (tab_notin hnin)]
          unfold tabD
          rw [List.map_append]
          rfl
        · rw [List.length_append, List.length_singleton]
          exact e2
    · rintro e ⟨pre, rest, b, c, q1, q2, rfl⟩
      cases rest with
      | nil =>
        rw [List.append_nil] at q1
        exact ⟨b, c, by rw [q1]⟩
      | cons _ _ => cases q2
  rintro _ ⟨b, c, rfl⟩
  refine seq (fun e => e = en (.obj [(0, .lst .frz)], .obj 0 [(0, strsD (sortS ws))]) (some (.dic .frz, .dic (tabD dk))) b c) (st_seta ((Ev.app1 (Ev.pl (p := .var 1) (x := (.bor, strsD ws)) rfl) (sorted_strs (by omega))).ok ⟨_, (.obj [], .obj 0 []), _, _, rfl, rfl, ?_, rfl, rfl⟩)) ?_
  · show (if (P.sg.gd 0 0 && true && true) = true then _ else none) = _
    rw [S.g0]
    rfl
  rintro _ rfl
  refine ss_cons (st_seta (ev_fz (s := .dic .frz) (d := .dic (tabD dk)) rfl rfl rfl ⟨_, (.obj [(0, .lst .frz)], .obj 0 [(0, strsD (sortS ws))]), _, _, rfl, rfl, ?_, rfl, ss_nil ⟨rfl, rfl⟩⟩))
  show (if (P.sg.gd 0 1 && true && true) = true then _ else none) = _
  rw [S.g1]
  rfl
end DI.PL
/-! PL13: sorting of texts and of named pairs. -/
namespace DI.PL
open PySem DI
abbrev leS (a b : Str) : Prop := a.cps.toList ≤ b.cps.toList
theorem strLt_true {a b : Str} : strLt a b = true ↔ a.cps.toList < b.cps.toList := decide_eq_true_iff
theorem leS_of_lt {a b : Str} (h : strLt a b = true) : leS a b := List.le_of_lt (strLt_true.mp h)
theorem leS_of_not {a b : Str} (h : ¬ strLt a b = true) : leS b a := List.not_lt.mp fun h2 => h (strLt_true.mpr h2)
theorem leS_trans {a b c : Str} (h : leS a b) (h2 : leS b c) : leS a c := List.le_trans h h2
theorem leS_anti {a b : Str} (h : leS a b) (h2 : leS b a) : a = b := PySem.W.str_of_cps (List.le_antisymm h h2)
theorem pw_insS (x : Str) : ∀ {l : List Str}, l.Pairwise leS → (insS x l).Pairwise leS
  | [], _ => List.pairwise_singleton ..
  | y :: r, h => by
    have h' := List.pairwise_cons.mp h
    unfold insS
    by_cases hlt : strLt y x = true
    · rw [if_pos hlt]
      refine List.pairwise_cons.mpr ⟨fun z hz => ?_, pw_insS x h'.2⟩
      rcases (mem_insS x z r).mp hz with rfl | hz
      · exact leS_of_lt hlt
      · exact h'.1 z hz
    · rw [if_neg hlt]
      refine List.pairwise_cons.mpr ⟨fun z hz => ?_, h⟩
      have hxy := leS_of_not hlt
      rcases List.mem_cons.mp hz with rfl | hz
      · exact hxy
      · exact leS_trans hxy (h'.1 z hz)
theorem pw_sortS : ∀ l : List Str, (sortS l).Pairwise leS
  | [] => .nil
  | x :: r => pw_insS x (pw_sortS r)
theorem leD_total (a b : D) : (leD a b || leD b a) = true := by
  unfold leD
  cases h : PySem.W.dataLt (pyD b) (pyD a) with
  | false => rfl
  | true =>
    cases h2 : PySem.W.dataLt (pyD a) (pyD b) with
    | false => rfl
    | true =>
      have := PyProof.Rows.lex_trans _ _ _ h h2
      rw [PyProof.Rows.lex_irrefl] at this
      cases this
theorem leD_trans (a b c : D) (h : leD a b = true) (h2 : leD b c = true) : leD a c = true := by
  unfold leD at *
  rw [Bool.not_eq_true'] at *
  cases h3 : PySem.W.dataLt (pyD c) (pyD a) with
  | false => rfl
  | true =>
    rcases PyProof.Rows.lex_negTrans _ (PySem.W.keyToks (pyD b)) _ h3 with h4 | h4
    · rw [show PySem.W.dataLt (pyD c) (pyD b) = true from h4] at h2
      cases h2
    · rw [show PySem.W.dataLt (pyD b) (pyD a) = true from h4] at h
      cases h
theorem sort_perm {l l' : List D} (hp : l.Perm l') (hs : l'.Pairwise fun a b => leD a b = true) (ha : ∀ a ∈ l', ∀ b ∈ l', leD a b = true → leD b a = true → a = b) : l.mergeSort leD = l' := by
  have h1 := List.pairwise_mergeSort (le := leD) leD_trans leD_total l
  have h2 := (List.mergeSort_perm l leD).trans hp
  exact h2.eq_of_pairwise (le := fun a b => leD a b = true) (fun a b h3 h4 h5 h6 => ha a (h2.mem_iff.mp h3) b h4 h5 h6) h1 hs
/-- a name and a text -/
def gP (k : Str → Str) (z : Str) : D := .tup [.str z, .str (k z)]
theorem leD_gP {k : Str → Str} {a b : Str} (h : leD (gP k a) (gP k b) = true) : leS a b := by
  unfold leD at h
  rw [Bool.not_eq_true', show pyD (gP k a) = .tuple [.str a, .str (k a)] from rfl, show pyD (gP k b) = .tuple [.str b, .str (k b)] from rfl, PySem.W.dataLt_pair (by simp [PySem.W.alike]) (by simp [PySem.W.alike])] at h
  by_cases e : PyData.eqv (.str b) (.str a) = true
  · have : (b == a) = true := e
    have : b = a := by simpa using this
    rw [this]
    exact List.le_refl _
  · rw [if_neg e, PySem.W.dataLt_str] at h
    exact List.not_lt.mp (of_decide_eq_false h)
theorem leD_gP' {k : Str → Str} {a b : Str} (hne : a ≠ b) (h : leS a b) : leD (gP k a) (gP k b) = true := by
  unfold leD
  rw [Bool.not_eq_true', show pyD (gP k a) = .tuple [.str a, .str (k a)] from rfl, show pyD (gP k b) = .tuple [.str b, .str (k b)] from rfl, PySem.W.dataLt_pair (by simp [PySem.W.alike]) (by simp [PySem.W.alike])]
  have e : ¬ PyData.eqv (.str b) (.str a) = true := fun e => by
    have : (b == a) = true := e
    exact hne (by simpa using this : b = a).symm
  rw [if_neg e, PySem.W.dataLt_str]
  exact decide_eq_false (List.not_lt.mpr h)
theorem toPys_gP (k : Str → Str) : ∀ zs : List Str, toPys (zs.map (gP k)) = some (zs.map fun z => .tuple [.str z, .str (k z)])
  | [] => rfl
  | z :: zs => by
    show (toPys (zs.map (gP k))).map _ = _
    rw [toPys_gP k zs]
    rfl
/-- named pairs are sorted by the names -/
theorem sortD_gP {k : Str → Str} {zs : List Str} (hn : zs.Nodup) (hl : zs.length ≤ 1000) : sortD (zs.map (gP k)) = some ((sortS zs).map (gP k)) := by
  cases zs with
  | nil => rfl
  | cons z0 zs0 =>
  generalize hz : z0 :: zs0 = zs at *
  have ha : sortA (zs.map (gP k)) = none := by rw [← hz]; rfl
  unfold sortD
  rw [ha]
  dsimp only
  rw [toPys_gP]
  dsimp only
  have h1 : sortOk (zs.map fun z => .tuple [.str z, .str (k z)]) = true := by
    unfold sortOk
    rw [Bool.and_eq_true, Bool.and_eq_true, Bool.or_eq_true]
    refine ⟨?_, .inl ?_, ?_⟩
    · rw [List.all_eq_true]
      intro p hp
      rw [List.all_eq_true]
      intro q hq
      obtain ⟨a, _, rfl⟩ := List.mem_map.mp hp
      obtain ⟨b, _, rfl⟩ := List.mem_map.mp hq
      simp [PySem.W.alike, PySem.W.alikeAll]
    · rw [List.all_eq_true]
      intro p hp
      obtain ⟨a, _, rfl⟩ := List.mem_map.mp hp
      rfl
    · rw [List.all_eq_true]
      intro p hp
      obtain ⟨a, _, rfl⟩ := List.mem_map.mp hp
      rw [decide_eq_true_eq]
      show max 0 (max 0 0) + 1 ≤ 64
      decide
  rw [h1, decide_eq_true (by rw [List.length_map, sizeLine_eq]; omega)]
  show some _ = _
  congr 1
  have hns : (sortS zs).Nodup := (perm_sortS zs).nodup_iff.mpr hn
  refine sort_perm ((perm_sortS zs).map _).symm ?_ ?_
  · rw [List.pairwise_map]
    exact (List.pairwise_and_iff.mpr ⟨hns, pw_sortS zs⟩).imp fun ⟨h1, h2⟩ => leD_gP' h1 h2
  · intro a ha b hb h1 h2
    obtain ⟨a, _, rfl⟩ := List.mem_map.mp ha
    obtain ⟨b, _, rfl⟩ := List.mem_map.mp hb
    rw [leS_anti (leD_gP h1) (leD_gP h2)]
end DI.PL
/-! PL14: a roster is asked; the keepers. -/
namespace DI.PL
open PySem DI
/-- Roster.desks and Roster.crew -/
structure Std3 (P : Prog) : Prop extends Std2 P where
  d15 : P.defs 15 = some (desks_n, desks_c)
  m15 : P.sg.modes 15 = [.bor]
  d16 : P.defs 16 = some (crewM_n, crewM_c)
  m16 : P.sg.modes 16 = [.bor, .bor]
variable {P : Prog} {n : Nat}
section
variable {sg : Sig} {cl : Calls} {env : Env}
theorem ev_mcall {c f : Nat} {o : E} {as : Es} {m : Md} {ms : List Md} {s : Sh} {fs : List (Nat × D)} {ca : CA} {Q : SD → Env → Prop} (hm : sg.modes f = m :: ms) (ho : Ev sg cl env o (s, .obj c fs)) (hg : fs.all (fun z => sg.gd c z.1) = true) (hca : argAs o m (s, .obj c fs) = some ca)
    (h : Ok (evC sg cl ms as) env fun cas e => ∃ args r outs e2, ioGets e (ca :: cas) = some args ∧ cl f args = some (.ok r outs) ∧ noB r.1 = true ∧ ioBack e (ca :: cas) outs = some e2 ∧ Q r e2) : Ok (ev sg cl (.mcall c f o as)) env Q := by
  have inner : Ok (M.bind (ev sg cl o) fun x => match x.2 with
      | .obj d fs => if (d = c && fs.all fun z => sg.gd c z.1) = true then M.bind (M.opt (argAs o m x)) fun ca => M.bind (evC sg cl ms as) fun cas => doCall cl f (ca :: cas) else M.stuck
      | _ => M.stuck) env Q := by
    refine Ok.bind (ho.ok ?_)
    show Ok (if (decide (c = c) && fs.all fun z => sg.gd c z.1) = true then _ else M.stuck) env Q
    rw [if_pos (by rw [decide_eq_true rfl, hg]; rfl)]
    refine Ok.bind (Ok.opt hca (Ok.bind (h.mono fun cas e ⟨args, r, outs, e2, h1, h2, h3, h4, q⟩ => ⟨r, e2, ?_, q⟩)))
    unfold doCall
    rw [h1]
    show (match cl f args with
      | some (.ok r outs) => if noB r.1 = true then (ioBack e (ca :: cas) outs).map fun e => Out.ok r e else none
      | some (.ex c fs outs) => (ioBack e (ca :: cas) outs).map fun e => Out.ex c fs e
      | none => none) = _
    rw [h2]
    show (if noB r.1 = true then _ else none) = _
    rw [if_pos h3, h4]
    rfl
  obtain ⟨r, e, h1, q⟩ := inner
  refine ⟨r, e, ?_, q⟩
  show (match sg.modes f with
    | [] => M.stuck
    | m :: ms => M.bind (ev sg cl o) fun x => match x.2 with
      | .obj d fs => if (d = c && fs.all fun z => sg.gd c z.1) = true then M.bind (M.opt (argAs o m x)) fun ca => M.bind (evC sg cl ms as) fun cas => doCall cl f (ca :: cas) else M.stuck
      | _ => M.stuck) env = _
  rw [hm]
  exact h1
/-- the first of the line that is in the crew -/
def firstIn (cs line : List Str) : Str := ((line.filter fun w => decide (w ∈ cs)).head?).getD Str.empty
theorem firstIn_at {cs line : List Str} (h : cs ≠ []) (hs : ∀ c ∈ cs, c ∈ line) : (line.filter fun w => decide (w ∈ cs))[0]? = some (firstIn cs line) := by
  unfold firstIn
  rw [← List.head?_eq_getElem?]
  cases e : line.filter fun w => decide (w ∈ cs) with
  | cons a l => rfl
  | nil =>
    cases cs with
    | nil => exact absurd rfl h
    | cons c cs =>
      have : c ∈ line.filter fun w => decide (w ∈ c :: cs) := List.mem_filter.mpr ⟨hs c (.head _), decide_eq_true (.head _)⟩
      rw [e] at this
      cases this
theorem firstIn_sort {cs line : List Str} : firstIn (sortS cs) line = firstIn cs line := by
  unfold firstIn
  have : (fun w => decide (w ∈ sortS cs)) = fun w : Str => decide (w ∈ cs) := funext fun w => by
    rw [Bool.eq_iff_iff, decide_eq_true_eq, decide_eq_true_eq]
    exact mem_sortS
  rw [this]
end
def firstOf_c : Ss := .cons (.ret (.app .ix (.cons (.lc [2] (.nm 2) (.e (.pl (.var 1))) (.cons (.app .isIn (.cons (.pl (.var 2)) (.cons (.pl (.var 0)) .nil))) .nil) (.fz 2) .frz) (.cons (.cst (.int (0))) .nil)))) .nil
theorem firstOf_ok {f : Nat} (hd : P.defs f = some (3, firstOf_c)) (hm : P.sg.modes f = [.bor, .bor]) {cs line : List Str} (hl : ∀ w ∈ line, okS w) (hll : line.length ≤ 1000) (h : cs ≠ []) (hs : ∀ c ∈ cs, c ∈ line) : callD P (n + 1) f [(.bor, strsD cs), (.bor, strsD line)] = some (.ok (.frz, .str (firstIn cs line)) [none, none]) := by
  suffices h : ∃ r outs, callD P (n + 1) f [(.bor, strsD cs), (.bor, strsD line)] = some (.ok r outs) ∧ r = (.frz, .str (firstIn cs line)) ∧ outs = [none, none] by
    obtain ⟨r, outs, hc, rfl, rfl⟩ := h
    exact hc
  refine call_ok hd ?_
  rw [hm]
  show Ok (sts P.sg (callD P n) firstOf_c) [some (.bor, strsD cs), some (.bor, strsD line), none] _
  have hlc : Ev P.sg (callD P n) [some (.bor, strsD cs), some (.bor, strsD line), none] (.lc [2] (.nm 2) (.e (.pl (.var 1))) (.cons (.app .isIn (.cons (.pl (.var 2)) (.cons (.pl (.var 0)) .nil))) .nil) (.fz 2) .frz) (.lst .frz, strsD (line.filter fun w => decide (w ∈ cs))) := by
    have := lc_nm (sg := P.sg) (cl := callD P n) (env := [some (.bor, strsD cs), some (.bor, strsD line), none]) (o := 2) (it := .e (.pl (.var 1))) (ifs := .cons (.app .isIn (.cons (.pl (.var 2)) (.cons (.pl (.var 0)) .nil))) .nil) (elt := .fz 2) (s := .frz) (xs := line.map fun w => (.frz, .str w))
      (fun x => match x.2 with | .str w => decide (w ∈ cs) | _ => false) (fun x => x.2) (its_ev (Ev.pl (p := .var 1) (x := (.bor, strsD line)) rfl) ?_) (by rw [List.length_map]; exact hll) ?_
    · have e : ((line.map fun w => ((.frz, .str w) : SD)).filter fun x => match x.2 with | .str w => decide (w ∈ cs) | _ => false).map (fun x => x.2) = (line.filter fun w => decide (w ∈ cs)).map .str := by
        rw [List.filter_map, List.map_map]
        rfl
      rw [e] at this
      exact this
    · show some ((line.map D.str).map _) = _
      rw [List.map_map]
      rfl
    · intro x hx
      obtain ⟨w, hw, rfl⟩ := List.mem_map.mp hx
      have hc : Ev P.sg (callD P n) [some (.bor, strsD cs), some (.bor, strsD line), some (.frz, .str w)] (.app .isIn (.cons (.pl (.var 2)) (.cons (.pl (.var 0)) .nil))) (.frz, .bl (decide (w ∈ cs))) :=
        Ev.app2 (x := (.frz, .str w)) (y := (.bor, strsD cs)) (Ev.pl (p := .var 2) rfl) (Ev.pl (p := .var 0) rfl) (by
          rw [sem_in, in_strs (fun c h => hl c (hs c h)) (hl w hw)]
          rfl)
      refine Ok.bind (hc.ok (Ok.opt (a := decide (w ∈ cs)) rfl ⟨rfl, rfl, fun _ => ev_fz rfl rfl rfl ⟨_, rfl, rfl, rfl⟩⟩))
  refine ss_cons (st_ret ((Ev.app2 hlc (Ev.cst (d := .int 0)) (r := (.frz, .str (firstIn cs line))) ?_).ok ⟨_, rfl, rfl, rfl⟩))
  show (itemOf (.lst .frz, strsD (line.filter fun w => decide (w ∈ cs))) (.int 0)).bind share = _
  rw [show itemOf (.lst .frz, strsD (line.filter fun w => decide (w ∈ cs))) (.int 0) = some (.frz, .str (firstIn cs line)) from list_at (k := 0) (.inr rfl) (by rw [List.getElem?_map, firstIn_at h hs]; rfl)]
  rfl
theorem desks_ok (S : Std3 P) {ws : List Str} {dk : List (Str × List Str)} (hd : dk.length ≤ 60) : callD P (n + 1) 15 [(.bor, rosD ws dk)] = some (.ok (.lst .frz, strsD (sortS (dk.map (·.1)))) [none]) := by
  suffices h : ∃ r outs, callD P (n + 1) 15 [(.bor, rosD ws dk)] = some (.ok r outs) ∧ r = (.lst .frz, strsD (sortS (dk.map (·.1)))) ∧ outs = [none] by
    obtain ⟨r, outs, hc, rfl, rfl⟩ := h
    exact hc
  refine call_ok S.d15 ?_
  rw [S.m15]
  show Ok (sts P.sg (callD P n) desks_c) [some (.bor, rosD ws dk)] _
  refine ss_cons (st_ret ((Ev.app1 (Ev.pl (p := .attr (.var 0) 1) (x := (.bor, .dic (tabD dk))) ?_) (r := (.lst .frz, strsD (sortS (dk.map (·.1))))) ?_).ok ⟨_, rfl, rfl, rfl⟩))
  · show (if P.sg.gd 0 1 = true then _ else none) = _
    rw [S.g1]
    rfl
  · show (sortA ((tabD dk).map fun kv => match kv.1 with | .inl i => D.int i | .inr z => D.str z)).bind lit = _
    have e : ((tabD dk).map fun kv => match kv.1 with | .inl i => D.int i | .inr z => D.str z) = (dk.map (·.1)).map .str := by
      unfold tabD
      rw [List.map_map, List.map_map]
      rfl
    rw [e]
    unfold sortA
    rw [strs_map]
    show (if (dk.map (·.1)).length < 64 then _ else none).bind lit = _
    rw [if_pos (by rw [List.length_map]; omega)]
    rfl
theorem crewM_ok (S : Std2 P) (d16 : P.defs 16 = some (crewM_n, crewM_c)) (m16 : P.sg.modes 16 = [.bor, .bor]) {ws : List Str} {dk : List (Str × List Str)} {p : Str × List Str} (hn : (dk.map (·.1)).Nodup) (hp : p ∈ dk) : callD P (n + 1) 16 [(.bor, rosD ws dk), (.frz, .str p.1)] = some (.ok (.lst .frz, strsD (sortS p.2)) [none, none]) := by
  suffices h : ∃ r outs, callD P (n + 1) 16 [(.bor, rosD ws dk), (.frz, .str p.1)] = some (.ok r outs) ∧ r = (.lst .frz, strsD (sortS p.2)) ∧ outs = [none, none] by
    obtain ⟨r, outs, hc, rfl, rfl⟩ := h
    exact hc
  refine call_ok d16 ?_
  rw [m16]
  show Ok (sts P.sg (callD P n) crewM_c) [some (.bor, rosD ws dk), some (.frz, .str p.1)] _
  have hg : (Pl.attr (.var 0) 1).get P.sg.gd [some (.bor, rosD ws dk), some (.frz, .str p.1)] = some (.bor, .dic (tabD dk)) := by
    show (if P.sg.gd 0 1 = true then _ else none) = _
    rw [S.g1]
    rfl
  refine seq (fun e => e = [some (.bor, rosD ws dk), some (.frz, .str p.1)]) (ife_no (s := .frz) (Ev.app2 (x := (.frz, .str p.1)) (Ev.pl (p := .var 1) rfl) (Ev.pl hg) ?_) rfl) ?_
  · rw [sem_notIn]
    show (some (assoc (Sum.inr p.1 : Key) (tabD dk)).isSome).bind _ = _
    rw [tab_get hn hp]
    rfl
  rintro _ rfl
  refine ss_cons (st_ret ((Ev.app1 (x := (.bor, strsD (sortS p.2))) (Ev.pl (p := .ix (.attr (.var 0) 1) (.var 1)) ?_) list_strs).ok ⟨_, rfl, rfl, rfl⟩))
  show ((Pl.attr (.var 0) 1).get P.sg.gd [some (.bor, rosD ws dk), some (.frz, .str p.1)]).bind (fun x => itemOf x (.str p.1)) = _
  rw [hg]
  show ((assoc (Sum.inr p.1 : Key) (tabD dk)).map fun d => ((.bor, d) : SD)) = _
  rw [tab_get hn hp]
  rfl
/-- _law_roster -/
theorem roster_ok (S : Std2 P) {ws : List Str} {dk : List (Str × List Str)} (h : PartsOk ws dk) : callD P (n + 5) 8 [(.bor, partsD ws dk)] = some (.ok (rosS ws dk) [none]) := by
  suffices hh : ∃ r outs, callD P (n + 5) 8 [(.bor, partsD ws dk)] = some (.ok r outs) ∧ r = rosS ws dk ∧ outs = [none] by
    obtain ⟨r, outs, hc, rfl, rfl⟩ := hh
    exact hc
  have hd := h.d60
  refine call_ok S.d8 ?_
  rw [S.m8]
  show Ok (sts P.sg (callD P (n + 4)) roster_c) [some (.bor, partsD ws dk), none, none] _
  have hlc : Ev P.sg (callD P (n + 4)) [some (.bor, partsD ws dk), none, none] (.lc [1, 2] (.tup (.cons (.nm 1) (.cons (.nm 2) .nil))) (.e (.pl (.ix (.var 0) (.cst (.int (1)))))) .nil (.tup (.cons (.fz 1) (.cons (.app .list (.cons (.pl (.var 2)) .nil)) .nil))) .frz) (.lst .frz, .lst (dk.map dskD)) := by
    have := lc_pure (sg := P.sg) (cl := callD P (n + 4)) (env := [some (.bor, partsD ws dk), none, none]) (own := [1, 2]) (tg := .tup (.cons (.nm 1) (.cons (.nm 2) .nil))) (it := .e (.pl (.ix (.var 0) (.cst (.int (1)))))) (ifs := .nil) (elt := .tup (.cons (.fz 1) (.cons (.app .list (.cons (.pl (.var 2)) .nil)) .nil))) (s := .frz) (xs := dk.map fun p => (.bor, dskD p))
      (fun _ => true) (fun x => x.2) (its_ev (Ev.pl (p := .ix (.var 0) (.cst (.int (1)))) (x := (.bor, .lst (dk.map dskD))) rfl) ?_) (by rw [List.length_map, sizeLine_eq]; omega) ?_
    · rw [List.filter_eq_self.mpr (fun _ _ => rfl), List.map_map] at this
      exact this
    · show some ((dk.map dskD).map _) = _
      rw [List.map_map]
      rfl
    · intro x hx e he
      obtain ⟨p, hp, rfl⟩ := List.mem_map.mp hx
      rw [he]
      refine Ok.of (a := ()) (e := [some (.bor, partsD ws dk), some (.frz, .str p.1), some (.bor, strsD p.2)]) rfl (Ok.pure ⟨rfl, rfl, fun _ => ?_⟩)
      refine ev_tup (evG_cons (ev_fz rfl rfl rfl ⟨_, rfl, evG_cons ((Ev.app1 (Ev.pl (p := .var 2) (x := (.bor, strsD p.2)) rfl) list_strs).ok ⟨_, rfl, evG_nil ⟨_, rfl, rfl, rfl⟩⟩)⟩))
  refine ss_cons (st_ret (ev_new (ms := [.bor, .bor]) (by rw [S.i0, S.m13]; rfl) (evC_val rfl ((Ev.app1 (Ev.pl (p := .ix (.var 0) (.cst (.int 0))) (x := (.bor, strsD ws)) rfl) list_strs).ok ⟨.val (.bor, strsD ws), rfl, evC_val rfl (hlc.ok ⟨.val (.bor, .lst (dk.map dskD)), rfl, evC_nil ⟨_, rosS ws dk, [none, none], _, rfl, ?_, rfl, rfl, _, rfl, rfl, rfl⟩⟩)⟩))))
  rw [S.i0]
  exact init_ok S h
end DI.PL
/-! PL15: _law_alike; the keepers. -/
namespace DI.PL
open PySem DI
mutual
/-- plain things that can be shown and compared -/
def nice : D → Bool
  | .non => true
  | .bl _ => true
  | .int i => decide (i.natAbs.log2 < 1920) && decide ((PyData.shown (.int i)).length ≤ 1000)
  | .str s => s.cps.all fun c => decide (c < 1114112)
  | .tup ds => nices ds
  | .lst ds => nices ds
  | _ => false
def nices : List D → Bool
  | [] => true
  | d :: ds => nice d && nices ds
end
mutual
def bulkD : D → Nat
  | .str s => s.cps.size
  | .tup ds => bulkDs ds
  | .lst ds => bulkDs ds
  | _ => 0
def bulkDs : List D → Nat
  | [] => 0
  | d :: ds => bulkD d + 1 + bulkDs ds
end
mutual
def depD : D → Nat
  | .tup ds => depDs ds + 1
  | .lst ds => depDs ds + 1
  | _ => 0
def depDs : List D → Nat
  | [] => 0
  | d :: ds => max (depD d) (depDs ds)
end
structure NiceP (p : PyData) (b k : Nat) : Prop where
  lay : p.canLay0 = true
  sho : p.showable = true
  lea : p.leavesShort 1000 = true
  blk : p.bulk = b
  dep : p.depth = k
structure NicePs (ps : List PyData) (b k : Nat) : Prop where
  lay : PyData.canLayAll0 ps = true
  sho : PyData.showableAll ps = true
  lea : PyData.leavesShortAll 1000 ps = true
  blk : PyData.bulkAll ps = b
  dep : PyData.depthAll ps = k
mutual
theorem nice_py : ∀ d : D, nice d = true → ∃ p, toPy d = some p ∧ NiceP p (bulkD d) (depD d)
  | .non, _ => ⟨.none, rfl, rfl, rfl, rfl, rfl, rfl⟩
  | .bl b, _ => ⟨.bool b, rfl, rfl, rfl, rfl, rfl, rfl⟩
  | .int i, h => by
    have h' := Bool.and_eq_true_iff.mp (show (decide (i.natAbs.log2 < 1920) && decide ((PyData.shown (.int i)).length ≤ 1000)) = true from h)
    exact ⟨.int i, rfl, rfl, h'.1, h'.2, rfl, rfl⟩
  | .str s, h => by
    have h1 : (s.cps.all fun c => decide (c < 1114112)) = true := h
    refine ⟨.str s, rfl, h1, rfl, ?_, rfl, rfl⟩
    show (s.cps.toList.all fun c => decide (c < 16 ^ 8)) = true
    rw [List.all_eq_true]
    intro c hc
    rw [Array.all_eq_true_iff_forall_mem] at h1
    have := of_decide_eq_true (h1 c (Array.mem_toList_iff.mp hc))
    exact decide_eq_true (Nat.lt_trans this (by decide))
  | .tup ds, h => by
    obtain ⟨ps, h1, h2⟩ := nices_py ds h
    refine ⟨.tuple ps, by show (toPys ds).map _ = _; rw [h1]; rfl, h2.lay, h2.sho, h2.lea, h2.blk, ?_⟩
    show PyData.depthAll ps + 1 = depDs ds + 1
    rw [h2.dep]
  | .lst ds, h => by
    obtain ⟨ps, h1, h2⟩ := nices_py ds h
    refine ⟨.list ps, by show (toPys ds).map _ = _; rw [h1]; rfl, h2.lay, h2.sho, h2.lea, h2.blk, ?_⟩
    show PyData.depthAll ps + 1 = depDs ds + 1
    rw [h2.dep]
  | .dic _, h => nomatch h
  | .dit _, h => nomatch h
  | .obj _ _, h => nomatch h
  | .scr _, h => nomatch h
theorem nices_py : ∀ ds : List D, nices ds = true → ∃ ps, toPys ds = some ps ∧ NicePs ps (bulkDs ds) (depDs ds)
  | [], _ => ⟨[], rfl, rfl, rfl, rfl, rfl, rfl⟩
  | d :: ds, h => by
    have h' := Bool.and_eq_true_iff.mp (show (nice d && nices ds) = true from h)
    obtain ⟨p, h1, h2⟩ := nice_py d h'.1
    obtain ⟨ps, h3, h4⟩ := nices_py ds h'.2
    refine ⟨p :: ps, by show (toPy d).bind _ = _; rw [h1]; show (toPys ds).map _ = _; rw [h3]; rfl, ?_, ?_, ?_, ?_, ?_⟩
    · show (PyData.canLay0 p && PyData.canLayAll0 ps) = true
      rw [h2.lay, h4.lay]
      rfl
    · show (PyData.showable p && PyData.showableAll ps) = true
      rw [h2.sho, h4.sho]
      rfl
    · show (PyData.leavesShort 1000 p && PyData.leavesShortAll 1000 ps) = true
      rw [h2.lea, h4.lea]
      rfl
    · show PyData.bulk p + 1 + PyData.bulkAll ps = bulkD d + 1 + bulkDs ds
      rw [h2.blk, h4.blk]
    · show max (PyData.depth p) (PyData.depthAll ps) = max (depD d) (depDs ds)
      rw [h2.dep, h4.dep]
end
/-! what is shown are signs -/
abbrev sg1 (c : Nat) : Prop := c < 1114112
def okC (s : Str) : Prop := ∀ c ∈ s.cps.toList, sg1 c
theorem okS_C {s : Str} (h : okC s) : okS s := by
  have e : s = T s.cps.toList := by
    cases s
    rfl
  rw [e]
  exact okS_T h
theorem okC_app {a b : Str} (ha : okC a) (hb : okC b) : okC (a ++ b) := by
  intro c hc
  have : (a ++ b).cps.toList = a.cps.toList ++ b.cps.toList := Array.toList_append
  rw [this] at hc
  rcases List.mem_append.mp hc with h | h
  · exact ha c h
  · exact hb c h
theorem sg_chr (c : Char) : sg1 c.toNat := by
  have := c.valid
  unfold sg1
  rcases this with h | h
  · exact Nat.lt_trans h (by decide)
  · exact h.2
theorem okC_lit (s : String) : okC (Str.ofString s) := by
  rw [Str.ofString_eq_toList]
  intro c hc
  obtain ⟨x, _, rfl⟩ := List.mem_map.mp (show c ∈ s.toList.map Char.toNat from hc)
  exact sg_chr x
theorem sg_repr {q c : Nat} (h : sg1 c) : ∀ x ∈ Builtin.Str.reprChar q c, sg1 x := by
  have hx : ∀ w : Nat, ∀ x ∈ List.replicate (w - ((Nat.toDigits 16 c).map Char.toNat).length) 48 ++ (Nat.toDigits 16 c).map Char.toNat, sg1 x := by
    intro w x hx
    rcases List.mem_append.mp hx with h | h
    · rw [List.eq_of_mem_replicate h]
      decide
    · obtain ⟨y, _, rfl⟩ := List.mem_map.mp h
      exact sg_chr y
  have two : ∀ (a : Nat) (l : List Nat), sg1 a → (∀ x ∈ l, sg1 x) → ∀ x ∈ [92, a] ++ l, sg1 x := by
    intro a l ha hl x hx
    rcases List.mem_append.mp hx with h | h
    · rcases List.mem_cons.mp h with rfl | h
      · decide
      · rw [List.mem_singleton.mp h]
        exact ha
    · exact hl x h
  have nn : ∀ x ∈ ([] : List Nat), sg1 x := fun _ h => nomatch h
  unfold Builtin.Str.reprChar
  dsimp only
  split
  · exact two c [] h nn
  split
  · exact two 110 [] (by decide) nn
  split
  · exact two 114 [] (by decide) nn
  split
  · exact two 116 [] (by decide) nn
  split
  · intro x hx
    rw [List.mem_singleton.mp hx]
    exact h
  split
  · exact two 120 _ (by decide) (hx 2)
  split
  · exact two 117 _ (by decide) (hx 4)
  · exact two 85 _ (by decide) (hx 8)
theorem okC_repr {s : Str} (h : okC s) : okC (reprText s) := by
  have hq : sg1 (reprQuote s) := by
    unfold reprQuote
    split <;> decide
  have hf : ∀ (l : List Nat) (acc : Array Nat), (∀ c ∈ l, sg1 c) → (∀ c ∈ acc.toList, sg1 c) → ∀ c ∈ (l.foldl (fun out c => out ++ (Builtin.Str.reprChar (reprQuote s) c).toArray) acc).toList, sg1 c := by
    intro l
    induction l with
    | nil => intro acc _ h; exact h
    | cons a l ih =>
      intro acc h1 h2
      refine ih _ (fun c hc => h1 c (.tail _ hc)) fun c hc => ?_
      rw [Array.toList_append] at hc
      rcases List.mem_append.mp hc with hc | hc
      · exact h2 c hc
      · exact sg_repr (h1 a (.head _)) c hc
  intro c hc
  unfold reprText at hc
  dsimp only at hc
  rw [Array.toList_push, ← Array.foldl_toList] at hc
  rcases List.mem_append.mp hc with hc | hc
  · exact hf _ _ h (fun c hc => by rw [List.mem_singleton.mp hc]; exact hq) c hc
  · rw [List.mem_singleton.mp hc]
    exact hq
theorem okC_from : ∀ (ts : List Str) (k : Nat) (acc : Str), okC acc → (∀ t ∈ ts, okC t) → okC (textFrom k acc ts)
  | [], _, _, h, _ => h
  | t :: ts, k, acc, h, ht => okC_from ts (k + 1) _ (okC_app (okC_app h (okC_lit _)) (ht t (.head _))) fun y hy => ht y (.tail _ hy)
theorem okC_join : ∀ ts : List Str, (∀ t ∈ ts, okC t) → okC (Str.join ", " ts)
  | [], _ => fun _ h => nomatch h
  | [x], h => h x (.head _)
  | x :: y :: r, h => okC_app (okC_app (h x (.head _)) (okC_lit _)) (okC_join (y :: r) fun t ht => h t (.tail _ ht))
theorem okC_list {ts : List Str} (h : ∀ t ∈ ts, okC t) : okC (listText ts) := okC_app (okC_from ts 0 _ (okC_lit _) h) (okC_lit _)
theorem okC_tup {ts : List Str} (h : ∀ t ∈ ts, okC t) : okC (tupleText ts) := okC_app (okC_app (okC_lit _) (okC_join ts h)) (okC_lit _)
mutual
theorem okC_shown : ∀ p : PyData, p.canLay0 = true → okC p.shown
  | .none, _ => okC_lit _
  | .bool true, _ => okC_lit _
  | .bool false, _ => okC_lit _
  | .int i, _ => okC_lit _
  | .str x, h => okC_repr fun c hc => by
    have h1 : (x.cps.all fun c => decide (c < 1114112)) = true := h
    rw [Array.all_eq_true_iff_forall_mem] at h1
    exact of_decide_eq_true (h1 c (Array.mem_toList_iff.mp hc))
  | .list xs, h => okC_list (okC_shownAll xs h)
  | .tuple xs, h => okC_tup (okC_shownAll xs h)
  | .dict _, h => nomatch h
theorem okC_shownAll : ∀ ps : List PyData, PyData.canLayAll0 ps = true → ∀ t ∈ PyData.shownAll ps, okC t
  | [], _ => fun _ h => nomatch h
  | p :: ps, h => by
    have h' := Bool.and_eq_true_iff.mp (show (p.canLay0 && PyData.canLayAll0 ps) = true from h)
    intro t ht
    rcases List.mem_cons.mp (show t ∈ p.shown :: PyData.shownAll ps from ht) with rfl | ht
    · exact okC_shown p h'.1
    · exact okC_shownAll ps h'.2 t ht
end
theorem eqv_nice {d : D} (h : nice d = true) (hk : depD d ≤ 64) : eqvD d d = some true := by
  obtain ⟨p, h1, h2⟩ := nice_py d h
  unfold eqvD
  rw [h1]
  show (if (SeqAt.shaped p && SeqAt.shaped p) = true then some (PyData.eqv p p) else none) = _
  have hs : SeqAt.shaped p = true := by
    unfold SeqAt.shaped
    rw [h2.lay, decide_eq_true (by rw [h2.dep]; exact hk)]
    rfl
  rw [hs, SeqAt.eqv_refl p h2.lay]
  rfl
theorem repr_nice {d : D} (s : Sh) (h : nice d = true) (hb : bulkD d ≤ 16000) (hk : depD d ≤ 64) : ∃ z : Str, sem1 .repr (s, d) = some (.frz, .str z) ∧ okS z := by
  obtain ⟨p, h1, h2⟩ := nice_py d h
  refine ⟨p.shown, ?_, ?_⟩
  · show (match toPy d with
      | some p => if (p.showable && decide (p.shown.length ≤ sizeLine) && decide (p.depth ≤ 64)) = true then sc (.str p.shown) else none
      | none => none) = _
    rw [h1]
    show (if (p.showable && decide (p.shown.length ≤ sizeLine) && decide (p.depth ≤ 64)) = true then sc (.str p.shown) else none) = _
    have hl : p.shown.length ≤ sizeLine := by
      have h3 := PyData.shown_le_bulk 1000 (by omega) p h2.lea
      rw [h2.blk] at h3
      rw [sizeLine_eq]
      have h4 : (1000 + 2) * bulkD d ≤ (1000 + 2) * 16000 := Nat.mul_le_mul_left _ hb
      omega
    rw [h2.sho, decide_eq_true hl, decide_eq_true (by rw [h2.dep]; exact hk)]
    rfl
  · exact okS_C (okC_shown p h2.lay)
variable {P : Prog} {n : Nat}
theorem alike_ok (S : Std2 P) {d : D} (h : nice d = true) (hb : bulkD d ≤ 16000) (hk : depD d ≤ 64) : callD P (n + 1) 9 [(.bor, d), (.bor, d)] = some (.ok (.frz, .bl true) [none, none]) := by
  suffices hh : ∃ r outs, callD P (n + 1) 9 [(.bor, d), (.bor, d)] = some (.ok r outs) ∧ r = (.frz, .bl true) ∧ outs = [none, none] by
    obtain ⟨r, outs, hc, rfl, rfl⟩ := hh
    exact hc
  refine call_ok S.d9 ?_
  rw [S.m9]
  show Ok (sts P.sg (callD P n) alike_c) [some (.bor, d), some (.bor, d)] _
  obtain ⟨z, hz, hok⟩ := repr_nice .bor h hb hk
  refine ss_cons (st_ret ((Ev.and (k := true) (k' := true) (s := .frz) (t := .frz) (Ev.app2 (x := (.bor, d)) (y := (.bor, d)) (Ev.pl (p := .var 0) rfl) (Ev.pl (p := .var 1) rfl) ?_) (Ev.app2 (x := (.frz, .str z)) (y := (.frz, .str z)) (Ev.app1 (Ev.pl (p := .var 0) rfl) hz) (Ev.app1 (Ev.pl (p := .var 1) rfl) hz) ?_) rfl).ok ⟨_, rfl, rfl, rfl⟩))
  · rw [sem_eq, eqv_nice h hk]
    rfl
  · rw [eq_str hok hok, decide_eq_true rfl]
end DI.PL
/-! PL16: keepers, _law_kept. -/
namespace DI.PL
open PySem DI
variable {P : Prog} {n : Nat}
def crewOf (dk : List (Str × List Str)) (z : Str) : List Str := ((dk.find? fun p => decide (p.1 = z)).map (·.2)).getD []
theorem crewOf_at : ∀ {dk : List (Str × List Str)} {p : Str × List Str}, (dk.map (·.1)).Nodup → p ∈ dk → crewOf dk p.1 = p.2
  | q :: dk, p, hn, hp => by
    have hn' := List.nodup_cons.mp hn
    unfold crewOf
    rcases List.mem_cons.mp hp with rfl | h
    · rw [List.find?_cons_of_pos (by simp)]
      rfl
    · rw [List.find?_cons_of_neg (by
        rw [decide_eq_true_eq]
        intro e
        exact hn'.1 (List.mem_map.mpr ⟨p, h, e.symm⟩))]
      exact crewOf_at hn'.2 h
abbrev kOf (dk : List (Str × List Str)) (line : List Str) (z : Str) : Str := firstIn (crewOf dk z) line
abbrev keptD (dk : List (Str × List Str)) (line : List Str) : D := .lst ((sortS (dk.map (·.1))).map (gP (kOf dk line)))
def keepers_c (F : Nat) : Ss := .cons (.ret (.lc [2] (.nm 2) (.e (.mcall 0 15 (.pl (.var 0)) .nil)) .nil (.tup (.cons (.fz 2) (.cons (.call F (.cons (.mcall 0 16 (.pl (.var 0)) (.cons (.pl (.var 2)) .nil)) (.cons (.pl (.var 1)) .nil))) .nil))) .frz)) .nil
def kept_c (F : Nat) : Ss := .cons (.ret (.app .sorted (.cons (.lc [2, 3] (.tup (.cons (.nm 2) (.cons (.nm 3) .nil))) (.e (.pl (.ix (.var 0) (.cst (.int (1)))))) .nil (.tup (.cons (.fz 2) (.cons (.call F (.cons (.pl (.var 3)) (.cons (.pl (.var 1)) .nil))) .nil))) .frz) .nil))) .nil
/-- a line -/
structure LineOk (ws line : List Str) : Prop where
  pm : line.Perm ws
theorem keepers_ok (S : Std3 P) {f F : Nat} (hd : P.defs f = some (3, keepers_c F)) (hm : P.sg.modes f = [.bor, .bor]) (hdF : P.defs F = some (3, firstOf_c)) (hmF : P.sg.modes F = [.bor, .bor])
    {ws line : List Str} {dk : List (Str × List Str)} (h : PartsOk ws dk) (hl : line.Perm ws) : callD P (n + 2) f [(.bor, rosD ws dk), (.bor, strsD line)] = some (.ok (.lst .frz, keptD dk line) [none, none]) := by
  suffices hh : ∃ r outs, callD P (n + 2) f [(.bor, rosD ws dk), (.bor, strsD line)] = some (.ok r outs) ∧ r = (.lst .frz, keptD dk line) ∧ outs = [none, none] by
    obtain ⟨r, outs, hc, rfl, rfl⟩ := hh
    exact hc
  have hw := h.w40
  have hdl := h.d60
  have hll : line.length ≤ 40 := by rw [hl.length_eq]; exact hw
  have hln : ∀ w ∈ line, okS w := fun w hw => okS_nm (h.wn w (hl.mem_iff.mp hw))
  have hgd : ([(0, strsD (sortS ws)), (1, D.dic (tabD dk))] : List (Nat × D)).all (fun z => P.sg.gd 0 z.1) = true := by
    show (P.sg.gd 0 0 && (P.sg.gd 0 1 && true)) = true
    rw [S.g0, S.g1]
    rfl
  refine call_ok hd ?_
  rw [hm]
  show Ok (sts P.sg (callD P (n + 1)) (keepers_c F)) [some (.bor, rosD ws dk), some (.bor, strsD line), none] _
  have hds : Ev P.sg (callD P (n + 1)) [some (.bor, rosD ws dk), some (.bor, strsD line), none] (.mcall 0 15 (.pl (.var 0)) .nil) (.lst .frz, strsD (sortS (dk.map (·.1)))) := by
    obtain ⟨r', e, h1, rfl, rfl⟩ : Ok (ev P.sg (callD P (n + 1)) (.mcall 0 15 (.pl (.var 0)) .nil)) [some (.bor, rosD ws dk), some (.bor, strsD line), none] fun r' e => r' = (.lst .frz, strsD (sortS (dk.map (·.1)))) ∧ e = [some (.bor, rosD ws dk), some (.bor, strsD line), none] :=
      ev_mcall (ca := .val (.bor, rosD ws dk)) S.m15 (Ev.pl (p := .var 0) rfl) hgd rfl (evC_nil ⟨_, _, _, _, rfl, desks_ok S hdl, rfl, rfl, rfl, rfl⟩)
    exact h1
  have hlc := lc_nm (sg := P.sg) (cl := callD P (n + 1)) (env := [some (.bor, rosD ws dk), some (.bor, strsD line), none]) (o := 2) (it := .e (.mcall 0 15 (.pl (.var 0)) .nil)) (ifs := .nil) (elt := .tup (.cons (.fz 2) (.cons (.call F (.cons (.mcall 0 16 (.pl (.var 0)) (.cons (.pl (.var 2)) .nil)) (.cons (.pl (.var 1)) .nil))) .nil))) (s := .frz) (xs := (sortS (dk.map (·.1))).map fun z => (.frz, .str z))
      (fun _ => true) (fun x => match x.2 with | .str z => gP (kOf dk line) z | _ => .non) (its_ev hds ?_) (by rw [List.length_map, (perm_sortS _).length_eq, List.length_map]; omega) ?_
  · rw [List.filter_eq_self.mpr (fun _ _ => rfl), List.map_map] at hlc
    exact ss_cons (st_ret (hlc.ok ⟨_, rfl, rfl, rfl⟩))
  · show some (((sortS (dk.map (·.1))).map D.str).map _) = _
    rw [List.map_map]
    rfl
  · intro x hx
    obtain ⟨z, hz, rfl⟩ := List.mem_map.mp hx
    obtain ⟨p, hp, rfl⟩ := List.mem_map.mp (mem_sortS.mp hz)
    have hcr := h.cr p hp
    refine Ok.pure ⟨rfl, rfl, fun _ => ?_⟩
    have hcw : Ev P.sg (callD P (n + 1)) [some (.bor, rosD ws dk), some (.bor, strsD line), some (.frz, .str p.1)] (.mcall 0 16 (.pl (.var 0)) (.cons (.pl (.var 2)) .nil)) (.lst .frz, strsD (sortS p.2)) := by
      obtain ⟨r', e, h1, rfl, rfl⟩ : Ok (ev P.sg (callD P (n + 1)) (.mcall 0 16 (.pl (.var 0)) (.cons (.pl (.var 2)) .nil))) [some (.bor, rosD ws dk), some (.bor, strsD line), some (.frz, .str p.1)] fun r' e => r' = (.lst .frz, strsD (sortS p.2)) ∧ e = [some (.bor, rosD ws dk), some (.bor, strsD line), some (.frz, .str p.1)] :=
        ev_mcall (ca := .val (.bor, rosD ws dk)) S.m16 (Ev.pl (p := .var 0) rfl) hgd rfl (evC_val rfl (ev_pl (x := (.frz, .str p.1)) rfl ⟨.val (.frz, .str p.1), rfl, evC_nil ⟨_, _, _, _, rfl, crewM_ok S.toStd2 S.d16 S.m16 h.dd hp, rfl, rfl, rfl, rfl⟩⟩))
      exact h1
    have hne : sortS p.2 ≠ [] := fun e => hcr.ne (by
      have := (perm_sortS p.2)
      rw [e] at this
      exact this.nil_eq.symm)
    refine ev_tup (evG_cons (ev_fz rfl rfl rfl ⟨(.frz, .str p.1), rfl, evG_cons (ev_call hmF (evC_val rfl (hcw.ok ⟨.val (.bor, strsD (sortS p.2)), rfl, evC_val rfl (ev_pl (x := (.bor, strsD line)) rfl ⟨.val (.bor, strsD line), rfl, evC_nil ⟨_, (.frz, .str (firstIn (sortS p.2) line)), _, _, rfl, firstOf_ok hdF hmF hln (by omega) hne (fun c hc => hl.mem_iff.mpr (hcr.sub c (mem_sortS.mp hc))), rfl, rfl, (.frz, .str (firstIn (sortS p.2) line)), rfl, evG_nil ⟨_, rfl, ?_, rfl⟩⟩⟩)⟩)))⟩))
    show D.tup [.str p.1, .str (firstIn (sortS p.2) line)] = gP (kOf dk line) p.1
    unfold gP kOf
    rw [crewOf_at h.dd hp, firstIn_sort]
theorem kept_ok {f F : Nat} (hd : P.defs f = some (4, kept_c F)) (hm : P.sg.modes f = [.bor, .bor]) (hdF : P.defs F = some (3, firstOf_c)) (hmF : P.sg.modes F = [.bor, .bor])
    {ws line : List Str} {dk : List (Str × List Str)} (h : PartsOk ws dk) (hl : line.Perm ws) : callD P (n + 2) f [(.bor, partsD ws dk), (.bor, strsD line)] = some (.ok (.lst .frz, keptD dk line) [none, none]) := by
  suffices hh : ∃ r outs, callD P (n + 2) f [(.bor, partsD ws dk), (.bor, strsD line)] = some (.ok r outs) ∧ r = (.lst .frz, keptD dk line) ∧ outs = [none, none] by
    obtain ⟨r, outs, hc, rfl, rfl⟩ := hh
    exact hc
  have hw := h.w40
  have hdl := h.d60
  have hll : line.length ≤ 40 := by rw [hl.length_eq]; exact hw
  have hln : ∀ w ∈ line, okS w := fun w hw => okS_nm (h.wn w (hl.mem_iff.mp hw))
  refine call_ok hd ?_
  rw [hm]
  show Ok (sts P.sg (callD P (n + 1)) (kept_c F)) [some (.bor, partsD ws dk), some (.bor, strsD line), none, none] _
  have hlc := lc_pure (sg := P.sg) (cl := callD P (n + 1)) (env := [some (.bor, partsD ws dk), some (.bor, strsD line), none, none]) (own := [2, 3]) (tg := .tup (.cons (.nm 2) (.cons (.nm 3) .nil))) (it := .e (.pl (.ix (.var 0) (.cst (.int (1)))))) (ifs := .nil) (elt := .tup (.cons (.fz 2) (.cons (.call F (.cons (.pl (.var 3)) (.cons (.pl (.var 1)) .nil))) .nil))) (s := .frz) (xs := dk.map fun p => (.bor, dskD p))
      (fun _ => true) (fun x => match x.2 with | .tup (.str z :: _) => gP (kOf dk line) z | _ => .non) (its_ev (Ev.pl (p := .ix (.var 0) (.cst (.int (1)))) (x := (.bor, .lst (dk.map dskD))) rfl) ?_) (by rw [List.length_map, sizeLine_eq]; omega) ?_
  · rw [List.filter_eq_self.mpr (fun _ _ => rfl), List.map_map] at hlc
    have e : (dk.map ((fun x : SD => match x.2 with | .tup (.str z :: _) => gP (kOf dk line) z | _ => .non) ∘ fun p => (.bor, dskD p))) = (dk.map (·.1)).map (gP (kOf dk line)) := by
      rw [List.map_map]
      rfl
    rw [e] at hlc
    refine ss_cons (st_ret ((Ev.app1 hlc (r := (.lst .frz, keptD dk line)) ?_).ok ⟨_, rfl, rfl, rfl⟩))
    show (sortD ((dk.map (·.1)).map (gP (kOf dk line)))).bind lit = _
    rw [sortD_gP h.dd (by rw [List.length_map]; omega)]
    rfl
  · show some ((dk.map dskD).map _) = _
    rw [List.map_map]
    rfl
  · intro x hx e he
    obtain ⟨p, hp, rfl⟩ := List.mem_map.mp hx
    have hcr := h.cr p hp
    rw [he]
    refine Ok.of (a := ()) (e := [some (.bor, partsD ws dk), some (.bor, strsD line), some (.frz, .str p.1), some (.bor, strsD p.2)]) rfl (Ok.pure ⟨rfl, rfl, fun _ => ?_⟩)
    refine ev_tup (evG_cons (ev_fz rfl rfl rfl ⟨(.frz, .str p.1), rfl, evG_cons (ev_call hmF (evC_val rfl (ev_pl (x := (.bor, strsD p.2)) rfl ⟨.val (.bor, strsD p.2), rfl, evC_val rfl (ev_pl (x := (.bor, strsD line)) rfl ⟨.val (.bor, strsD line), rfl, evC_nil ⟨_, (.frz, .str (firstIn p.2 line)), _, _, rfl, firstOf_ok hdF hmF hln (by omega) hcr.ne (fun c hc => hl.mem_iff.mpr (hcr.sub c hc)), rfl, rfl, (.frz, .str (firstIn p.2 line)), rfl, evG_nil ⟨_, rfl, ?_, rfl⟩⟩⟩)⟩)))⟩))
    show D.tup [.str p.1, .str (firstIn p.2 line)] = gP (kOf dk line) p.1
    unfold gP kOf
    rw [crewOf_at h.dd hp]
/-- kept lists are short -/
theorem kept_nice {ws line : List Str} {dk : List (Str × List Str)} (h : PartsOk ws dk) (hl : line.Perm ws) : nice (keptD dk line) = true ∧ bulkD (keptD dk line) ≤ 16000 ∧ depD (keptD dk line) ≤ 64 := by
  have hk : ∀ z ∈ sortS (dk.map (·.1)), Nm z ∧ Nm (kOf dk line z) := by
    intro z hz
    obtain ⟨p, hp, rfl⟩ := List.mem_map.mp (mem_sortS.mp hz)
    refine ⟨h.dn p hp, ?_⟩
    have hcr := h.cr p hp
    unfold kOf
    rw [crewOf_at h.dd hp]
    have := List.mem_of_getElem? (firstIn_at (line := line) hcr.ne fun c hc => hl.mem_iff.mpr (hcr.sub c hc))
    exact h.wn _ (hl.mem_iff.mp (List.mem_filter.mp this).1)
  have hlen : (sortS (dk.map (·.1))).length ≤ 60 := by
    rw [(perm_sortS _).length_eq, List.length_map]
    exact h.d60
  have nmB : ∀ z, Nm z → nice (.str z) = true ∧ z.cps.size ≤ 8 := by
    rintro z ⟨l, rfl, l1, l8, hc⟩
    refine ⟨?_, l8⟩
    show ((T l).cps.all fun c => decide (c < 1114112)) = true
    unfold T
    simp only [List.all_toArray, List.all_eq_true, decide_eq_true_eq]
    intro c h
    have := hc c h
    omega
  have gen : ∀ zs : List Str, (∀ z ∈ zs, Nm z ∧ Nm (kOf dk line z)) → nices (zs.map (gP (kOf dk line))) = true ∧ bulkDs (zs.map (gP (kOf dk line))) ≤ 20 * zs.length ∧ depDs (zs.map (gP (kOf dk line))) ≤ 1 := by
    intro zs
    induction zs with
    | nil => intro _; exact ⟨rfl, Nat.le_refl _, Nat.zero_le _⟩
    | cons z zs ih =>
      intro hz
      obtain ⟨i1, i2, i3⟩ := ih fun y hy => hz y (.tail _ hy)
      obtain ⟨n1, b1⟩ := nmB z (hz z (.head _)).1
      obtain ⟨n2, b2⟩ := nmB _ (hz z (.head _)).2
      refine ⟨?_, ?_, ?_⟩
      · show ((nice (.str z) && (nice (.str (kOf dk line z)) && true)) && nices (zs.map (gP (kOf dk line)))) = true
        rw [n1, n2, i1]
        rfl
      · show (z.cps.size + 1 + ((kOf dk line z).cps.size + 1 + 0)) + 1 + bulkDs (zs.map (gP (kOf dk line))) ≤ 20 * (zs.length + 1)
        omega
      · exact Nat.max_le.mpr ⟨Nat.le_refl _, i3⟩
  obtain ⟨g1, g2, g3⟩ := gen _ hk
  refine ⟨g1, ?_, ?_⟩
  · show bulkDs _ ≤ _
    omega
  · show depDs _ + 1 ≤ 64
    omega
end DI.PL
/-! PL17: dicts of pairs, ranges, if-else. -/
namespace DI.PL
open PySem DI
section
variable {sg : Sig} {cl : Calls} {env : Env}
theorem Ev.ite {c a b : E} {x y : SD} {k : Bool} {s : Sh} (hc : Ev sg cl env c (s, .bl k)) (ha : Ev sg cl env a x) (hb : Ev sg cl env b y) (hx : k = true → (if a.place = true then share x else some x) = some x) (hy : k = false → (if b.place = true then share y else some y) = some y) : Ev sg cl env (.ite c a b) (if k = true then x else y) := by
  obtain ⟨r', e, h1, rfl, rfl⟩ : Ok (ev sg cl (.ite c a b)) env fun r' e => r' = (if k = true then x else y) ∧ e = env := by
    refine Ok.bind (hc.ok (Ok.bind (Ok.opt (a := k) rfl ?_)))
    cases k with
    | true => exact Ok.bind (ha.ok (Ok.opt (hx rfl) ⟨rfl, rfl⟩))
    | false => exact Ok.bind (hb.ok (Ok.opt (hy rfl) ⟨rfl, rfl⟩))
  exact h1
theorem its_rngO {x : E} {Q : List SD → Env → Prop} (h : Ok (ev sg cl x) env fun r e => ∃ (s : Sh) (k : Nat), r = (s, .int (k : Int)) ∧ k ≤ 1000 ∧ Q (Rg k) e) : Ok (its sg cl (.rng (.cons x .nil))) env Q := by
  refine Ok.bind (evs_cons (h.mono fun r e ⟨s, k, h1, h2, q⟩ => evs_nil (Ok.opt (a := Rg k) ?_ q)))
  subst h1
  have h3 := its_rng (sg := sg) (cl := cl) (env := [some (s, .int (k : Int))]) (x := .pl (.var 0)) (s := s) (k := k) (Ev.pl rfl) h2
  have h4 : (rangeOf [(s, .int (k : Int))]).map (fun xs => Out.ok xs [some (s, .int (k : Int))]) = some (.ok (Rg k) [some (s, .int (k : Int))]) := h3
  obtain ⟨xs, h5, h6⟩ := Option.map_eq_some_iff.mp h4
  cases h6
  exact h5
end
theorem mergeA_new {kvs : List (Key × D)} : ∀ {more : List (Key × D)} {acc : List (Key × D)}, (acc.map (·.1) ++ more.map (·.1)).Nodup → mergeA acc more = acc ++ more
  | [], acc, _ => (List.append_nil acc).symm
  | (k, v) :: more, acc, h => by
    have h1 := List.nodup_append.mp h
    have hk : k ∉ acc.map (·.1) := fun hm => h1.2.2 k hm k (.head _) rfl
    show mergeA (putA k v acc) more = _
    rw [putA_new hk, mergeA_new (kvs := kvs), List.append_assoc]
    · rfl
    · rw [List.map_append, List.append_assoc]
      exact h
/-- a dict by names -/
abbrev dcD (l : List (Str × D)) : D := .dic (l.map fun p => (.inr p.1, p.2))
theorem pairs_of : ∀ l : List (Str × D), pairsOf (l.map fun p => .tup [.str p.1, p.2]) = some (l.map fun p => (.inr p.1, p.2))
  | [] => rfl
  | p :: l => by
    show (some (Sum.inr p.1 : Key)).bind (fun k => (pairsOf (l.map fun p => .tup [.str p.1, p.2])).map fun t => (k, p.2) :: t) = _
    rw [pairs_of l]
    rfl
theorem inr_nodup {zs : List Str} (h : zs.Nodup) : (zs.map (Sum.inr : Str → Key)).Nodup := nodup_map h fun a _ b _ e => by
  injection e
theorem dict_ok {l : List (Str × D)} (h : (l.map (·.1)).Nodup) : sem1 .dict (.frz, .lst (l.map fun p => .tup [.str p.1, p.2])) = some (.dic .frz, dcD l) := by
  show (some (l.map fun p => D.tup [.str p.1, p.2])).bind (fun ds => (pairsOf ds).bind fun kvs => some ((.dic .frz, .dic (mergeA [] kvs)) : SD)) = _
  show (pairsOf (l.map fun p => D.tup [.str p.1, p.2])).bind (fun kvs => some ((.dic .frz, .dic (mergeA [] kvs)) : SD)) = _
  rw [pairs_of]
  show some ((.dic .frz, .dic (mergeA [] (l.map fun p => ((.inr p.1, p.2) : Key × D)))) : SD) = _
  rw [mergeA_new (kvs := [])]
  · rfl
  · rw [List.map_nil, List.nil_append, List.map_map]
    have := inr_nodup h
    rw [List.map_map] at this
    exact this
theorem dc_get : ∀ {l : List (Str × D)} {p : Str × D}, (l.map (·.1)).Nodup → p ∈ l → assoc (Sum.inr p.1 : Key) (l.map fun p => (.inr p.1, p.2)) = some p.2
  | q :: l, p, hn, hp => by
    have hn' := List.nodup_cons.mp hn
    show (if (Sum.inr q.1 : Key) = Sum.inr p.1 then some q.2 else assoc (Sum.inr p.1) (l.map fun p => (.inr p.1, p.2))) = _
    rcases List.mem_cons.mp hp with rfl | h
    · rw [if_pos rfl]
    · rw [if_neg, dc_get hn'.2 h]
      intro e
      injection e with e
      exact hn'.1 (List.mem_map.mpr ⟨p, h, e.symm⟩)
theorem nm_nice {z : Str} (h : Nm z) : nice (.str z) = true ∧ z.cps.size ≤ 8 := by
  obtain ⟨l, rfl, l1, l8, hc⟩ := h
  refine ⟨?_, l8⟩
  show ((T l).cps.all fun c => decide (c < 1114112)) = true
  unfold T
  simp only [List.all_toArray, List.all_eq_true, decide_eq_true_eq]
  intro c h
  have := hc c h
  omega
theorem gP_nice {k : Str → Str} : ∀ zs : List Str, (∀ z ∈ zs, Nm z ∧ Nm (k z)) → nices (zs.map (gP k)) = true ∧ bulkDs (zs.map (gP k)) ≤ 20 * zs.length ∧ depDs (zs.map (gP k)) ≤ 1
  | [], _ => ⟨rfl, Nat.le_refl _, Nat.zero_le _⟩
  | z :: zs, hz => by
    obtain ⟨i1, i2, i3⟩ := gP_nice (k := k) zs fun y hy => hz y (.tail _ hy)
    obtain ⟨n1, b1⟩ := nm_nice (hz z (.head _)).1
    obtain ⟨n2, b2⟩ := nm_nice (hz z (.head _)).2
    refine ⟨?_, ?_, ?_⟩
    · show ((nice (.str z) && (nice (.str (k z)) && true)) && nices (zs.map (gP k))) = true
      rw [n1, n2, i1]
      rfl
    · show (z.cps.size + 1 + ((k z).cps.size + 1 + 0)) + 1 + bulkDs (zs.map (gP k)) ≤ 20 * (zs.length + 1)
      omega
    · exact Nat.max_le.mpr ⟨Nat.le_refl _, i3⟩
/-- a list is empty or not -/
theorem eqv_nil {ds : List D} (h : nices ds = true) (hd : depDs ds ≤ 63) : eqvD (.lst ds) (.lst []) = some ds.isEmpty := by
  obtain ⟨ps, h1, h2⟩ := nices_py ds h
  unfold eqvD
  rw [show toPy (.lst ds) = some (.list ps) by show (toPys ds).map _ = _; rw [h1]; rfl]
  show (if (SeqAt.shaped (.list ps) && SeqAt.shaped (.list [])) = true then some (PyData.eqv (.list ps) (.list [])) else none) = _
  have hs : SeqAt.shaped (.list ps) = true := by
    unfold SeqAt.shaped
    rw [show PyData.canLay0 (.list ps) = true from h2.lay, decide_eq_true (by show PyData.depthAll ps + 1 ≤ 64; rw [h2.dep]; omega)]
    rfl
  rw [if_pos (by rw [hs]; rfl)]
  cases ds with
  | nil => cases h1; rfl
  | cons d ds =>
    obtain ⟨p, _, h3⟩ := Option.bind_eq_some_iff.mp (show (toPy d).bind (fun y => (toPys ds).map fun ys => y :: ys) = some ps from h1)
    obtain ⟨qs, _, rfl⟩ := Option.map_eq_some_iff.mp h3
    rfl
section
variable {sg : Sig} {cl : Calls} {env : Env}
/-- a call whose arguments are lent -/
theorem Ev.call1 {f : Nat} {e : E} {s r : SD} {d : D} (hm : sg.modes f = [.bor]) (he : Ev sg cl env e s) (ha : argAs e .bor s = some (.val (.bor, d))) (hc : cl f [(.bor, d)] = some (.ok r [none])) (hr : noB r.1 = true) : Ev sg cl env (.call f (.cons e .nil)) r := by
  obtain ⟨r', e', h1, rfl, rfl⟩ : Ok (ev sg cl (.call f (.cons e .nil))) env fun r' e => r' = r ∧ e = env := ev_call hm (evC_val rfl (he.ok ⟨_, ha, evC_nil ⟨_, _, _, _, rfl, hc, hr, rfl, rfl, rfl⟩⟩))
  exact h1
theorem Ev.call2 {f : Nat} {e1 e2 : E} {s1 s2 r : SD} {a1 a2 : SD} (hm : sg.modes f = [.bor, .bor]) (h1 : Ev sg cl env e1 s1) (q1 : argAs e1 .bor s1 = some (.val a1)) (h2 : Ev sg cl env e2 s2) (q2 : argAs e2 .bor s2 = some (.val a2)) (hc : cl f [a1, a2] = some (.ok r [none, none])) (hr : noB r.1 = true) :
    Ev sg cl env (.call f (.cons e1 (.cons e2 .nil))) r := by
  obtain ⟨r', e', h1, rfl, rfl⟩ : Ok (ev sg cl (.call f (.cons e1 (.cons e2 .nil)))) env fun r' e => r' = r ∧ e = env := ev_call hm (evC_val rfl (h1.ok ⟨_, q1, evC_val rfl (h2.ok ⟨_, q2, evC_nil ⟨_, _, _, _, rfl, hc, hr, rfl, rfl, rfl⟩⟩)⟩))
  exact h1
end
theorem eqv_strs {zs : List Str} (h : ∀ z ∈ zs, okS z) : eqvD (strsD zs) (strsD zs) = some true := by
  unfold eqvD
  rw [show toPy (strsD zs) = some (.list (zs.map .str)) by show (toPys (zs.map .str)).map _ = _; rw [toPys_strs]; rfl]
  show (if (SeqAt.shaped (.list (zs.map .str)) && SeqAt.shaped (.list (zs.map .str))) = true then some (PyData.eqv (.list (zs.map .str)) (.list (zs.map .str))) else none) = _
  rw [shaped_strs h, SeqAt.eqv_refl _ (SeqAt.canLay_of_shaped (shaped_strs h))]
  rfl
end DI.PL
/-! PL18: _law_turned. -/
namespace DI.PL
open PySem DI
variable {P : Prog} {n : Nat}
def js : List Nat := [106, 97, 115, 111, 110, 98, 107, 101]
theorem jsT : ("jasonbke" : Str) = T js := by decide +kernel
def nmk (k : Nat) : Str := T (js.drop k ++ js.take k)
theorem nmk_nm : ∀ k, k < 8 → Nm (nmk k) := fun k hk => nm_of ((by decide +kernel : ∀ k, k < 8 → nmB (nmk k) = true) k hk)
theorem nmk_inj : ∀ a b, a < 8 → b < 8 → nmk a = nmk b → a = b := fun a b ha hb => (by decide +kernel : ∀ a, a < 8 → ∀ b, b < 8 → nmk a = nmk b → a = b) a ha b hb
def ren (ws : List Str) (w : Str) : Str := nmk (ws.idxOf w)
theorem ren_nm {ws : List Str} (h8 : ws.length ≤ 8) {w : Str} (hw : w ∈ ws) : Nm (ren ws w) := nmk_nm _ (by
  have := List.idxOf_lt_length_of_mem hw
  omega)
theorem ren_inj {ws : List Str} (h8 : ws.length ≤ 8) {a b : Str} (ha : a ∈ ws) (hb : b ∈ ws) (h : ren ws a = ren ws b) : a = b := by
  have h1 := List.idxOf_lt_length_of_mem ha
  have h2 := List.idxOf_lt_length_of_mem hb
  have h3 := nmk_inj _ _ (by omega) (by omega) h
  have h4 := List.getElem_idxOf h1
  have h5 := List.getElem_idxOf h2
  rw [← h4, ← h5]
  congr 1
theorem parts_ren {ws : List Str} {dk : List (Str × List Str)} (h : PartsOk ws dk) (h8 : ws.length ≤ 8) : PartsOk (ws.map (ren ws)) (dk.map fun p => (p.1, p.2.map (ren ws))) := by
  refine ⟨by rw [List.length_map]; exact h.w1, by rw [List.length_map]; exact h.w40, fun w hw => ?_, nodup_map h.wd fun a ha b hb => ren_inj h8 ha hb, by rw [List.length_map]; exact h.d60, fun p hp => ?_, ?_, fun p hp => ?_⟩
  · obtain ⟨v, hv, rfl⟩ := List.mem_map.mp hw
    exact ren_nm h8 hv
  · obtain ⟨q, hq, rfl⟩ := List.mem_map.mp hp
    exact h.dn q hq
  · rw [List.map_map]
    exact h.dd
  · obtain ⟨q, hq, rfl⟩ := List.mem_map.mp hp
    have hc := h.cr q hq
    refine ⟨fun e => hc.ne (List.map_eq_nil_iff.mp e), nodup_map hc.nd fun a ha b hb => ren_inj h8 (hc.sub a ha) (hc.sub b hb), fun c hc' => ?_⟩
    obtain ⟨d, hd, rfl⟩ := List.mem_map.mp hc'
    exact List.mem_map.mpr ⟨d, hc.sub d hd, rfl⟩
def turned_c : Ss := (.cons (.ife (.or (.app .gt (.cons (.app .len (.cons (.pl (.ix (.var 1) (.cst (.int (0))))) .nil)) (.cons (.cst (.int (8))) .nil))) (.app .gt (.cons (.call 1 (.cons (.pl (.var 0)) (.cons (.cst (.int (3))) .nil))) (.cons (.cst (.int (0))) .nil)))) (.cons (.ret (.fz 1)) .nil) .nil) (.cons (.asg (.nm 2) (.newd false .frz)) (.cons (.for (.tup (.cons (.nm 4) (.cons (.nm 5) .nil))) (.enum (.pl (.ix (.var 1) (.cst (.int (0)))))) (.cons (.seti (.var 2) (.pl (.var 5)) (.app .add (.cons (.app (.sl true false) (.cons (.cst (.str "jasonbke")) (.cons (.pl (.var 4)) .nil))) (.cons (.app (.sl false true) (.cons (.cst (.str "jasonbke")) (.cons (.pl (.var 4)) .nil))) .nil)))) .nil)) (.cons (.asg (.nm 3) (.lc [6, 7] (.tup (.cons (.nm 6) (.cons (.nm 7) .nil))) (.e (.pl (.ix (.var 1) (.cst (.int (1)))))) .nil (.tup (.cons (.fz 6) (.cons (.lc [5] (.nm 5) (.e (.pl (.var 7))) .nil (.pl (.ix (.var 2) (.var 5))) .frz) .nil))) .frz)) (.cons (.ret (.tup (.cons (.lc [5] (.nm 5) (.e (.pl (.ix (.var 1) (.cst (.int (0)))))) .nil (.pl (.ix (.var 2) (.var 5))) .frz) (.cons (.fz 3) .nil)))) .nil)))))
/-- each of a row, called anew -/
theorem lc_ren {sg : Sig} {cl : Calls} {env : Env} {ws cs : List Str} {e : E} {kvs : List (Key × D)} (hx : Ev sg cl env e (.frz, strsD cs)) (hl : cs.length ≤ 1000) (h5 : 5 < env.length) (h2 : env[2]? = some (some (.dic .frz, .dic kvs))) (hk : ∀ c ∈ cs, assoc (Sum.inr c : Key) kvs = some (.str (ren ws c))) :
    Ev sg cl env (.lc [5] (.nm 5) (.e e) .nil (.pl (.ix (.var 2) (.var 5))) .frz) (.lst .frz, strsD (cs.map (ren ws))) := by
  have := lc_nm (sg := sg) (cl := cl) (env := env) (o := 5) (it := .e e) (ifs := .nil) (elt := .pl (.ix (.var 2) (.var 5))) (s := .frz) (xs := cs.map fun c => (.frz, .str c)) (fun _ => true) (fun x => match x.2 with | .str c => .str (ren ws c) | _ => .non) (its_ev hx (by
    show some ((cs.map D.str).map _) = _
    rw [List.map_map]
    rfl)) (by rw [List.length_map]; exact hl) ?_
  · rw [List.filter_eq_self.mpr (fun _ _ => rfl), List.map_map] at this
    show Ev sg cl env _ (.lst .frz, .lst ((cs.map (ren ws)).map .str))
    rw [List.map_map]
    exact this
  · intro x hx
    obtain ⟨c, hc, rfl⟩ := List.mem_map.mp hx
    refine Ok.pure ⟨rfl, List.set_set .., fun _ => ev_pl (x := (.frz, .str (ren ws c))) ?_ ⟨_, takeAs_frz, rfl, List.set_set ..⟩⟩
    show ((match (env.set 5 (some (.frz, .str c)))[2]? with | some (some x) => some x | _ => none : Option SD).bind fun x => (match (env.set 5 (some (.frz, .str c)))[5]? with | some (some (_, d)) => if d.scal = true then some d else none | _ => none : Option D).bind fun d => itemOf x d) = _
    rw [List.getElem?_set_ne (by decide), h2, List.getElem?_set_self h5]
    show ((assoc (Sum.inr c : Key) kvs).map fun d => ((.frz, d) : SD)) = _
    rw [hk c hc]
    rfl
theorem turned_ok (S : Std P) {f : Nat} (hd : P.defs f = some (8, turned_c)) (hm : P.sg.modes f = [.io, .frz]) {g : Bag} (hg : g.ok) {ws : List Str} {dk : List (Str × List Str)} (h : PartsOk ws dk) :
    ∃ (g' : Bag) (s : Sh) (ws' : List Str) (dk' : List (Str × List Str)), g'.ok ∧ (s = .frz ∨ s = .tup [.lst .frz, .frz]) ∧ PartsOk ws' dk' ∧ callD P (n + 2) f [bg g, (.frz, partsD ws dk)] = some (.ok (s, partsD ws' dk') [some (bg g'), none]) := by
  suffices hh : ∃ r outs, callD P (n + 2) f [bg g, (.frz, partsD ws dk)] = some (.ok r outs) ∧ ∃ (g' : Bag) (s : Sh) (ws' : List Str) (dk' : List (Str × List Str)), g'.ok ∧ (s = .frz ∨ s = .tup [.lst .frz, .frz]) ∧ PartsOk ws' dk' ∧ r = (s, partsD ws' dk') ∧ outs = [some (bg g'), none] by
    obtain ⟨r, outs, hc, g', s, ws', dk', k1, k2, k3, rfl, rfl⟩ := hh
    exact ⟨g', s, ws', dk', k1, k2, k3, hc⟩
  have hd60 := h.d60
  refine call_ok hd ?_
  rw [hm]
  show Ok (sts P.sg (callD P (n + 1)) turned_c) [some (bg g), some (.frz, partsD ws dk), none, none, none, none, none, none] _
  refine seq (fun e => ∃ g1 : Bag, g1.ok ∧ ws.length ≤ 8 ∧ e = [some (bg g1), some (.frz, partsD ws dk), none, none, none, none, none, none]) ?_ ?_
  · have hgt : Ev P.sg (callD P (n + 1)) [some (bg g), some (.frz, partsD ws dk), none, none, none, none, none, none] (.app .gt (.cons (.app .len (.cons (.pl (.ix (.var 1) (.cst (.int (0))))) .nil)) (.cons (.cst (.int (8))) .nil))) (.frz, .bl (decide ((8 : Int) < ((ws.map D.str).length : Int)))) :=
      Ev.app2 (Ev.app1 (Ev.pl (p := .ix (.var 1) (.cst (.int 0))) (x := (.frz, strsD ws)) rfl) rfl) Ev.cst rfl
    refine st_ifeX (ev_or (k := decide ((8 : Int) < ((ws.map D.str).length : Int))) (hgt.ok ⟨rfl, ?_⟩))
    by_cases h8 : (8 : Int) < ((ws.map D.str).length : Int)
    · rw [if_pos (decide_eq_true h8)]
      exact ⟨true, rfl, ss_cons (st_ret (ev_fz (s := .frz) (d := partsD ws dk) rfl rfl rfl ⟨_, rfl, g, .frz, ws, dk, hg, .inl rfl, h, rfl, rfl⟩))⟩
    · rw [if_neg (by rw [decide_eq_true_eq]; exact h8)]
      rw [List.length_map] at h8
      refine ev_app2 (ev_take S rfl hg Ev.cst (by decide) (by decide) fun v g1 v0 v1 k1 => ev_cst ⟨(.frz, .bl (decide (0 < v))), rfl, _, rfl, decide (0 < v), rfl, ?_⟩)
      by_cases hv : 0 < v
      · rw [decide_eq_true hv]
        exact ss_cons (st_ret (ev_fz (s := .frz) (d := partsD ws dk) rfl rfl rfl ⟨_, rfl, g1, .frz, ws, dk, k1, .inl rfl, h, rfl, rfl⟩))
      · rw [decide_eq_false hv]
        exact ss_nil ⟨g1, k1, by omega, rfl⟩
  rintro _ ⟨g1, k1, h8, rfl⟩
  let tb : List Str → List (Key × D) := fun l => l.map fun w => (.inr w, .str (ren ws w))
  let en : List Str → Option SD → Option SD → Option SD → Env := fun l c a b => [some (bg g1), some (.frz, partsD ws dk), some (.dic .frz, .dic (tb l)), c, a, b, none, none]
  refine seq (fun e => e = en [] none none none) (st_set (Ok.of rfl ⟨_, rfl, rfl⟩)) ?_
  rintro _ rfl
  refine seq (fun e => ∃ a b, e = en ws none a b) ?_ ?_
  · refine st_for (fun rem e => ∃ (pre rest : List Str) (a b : Option SD), pre ++ rest = ws ∧ rem = enums pre.length (rest.map fun w => (.frz, .str w)) ∧ e = en pre none a b) ?_ ?_ ?_
    · refine Ok.bind (ev_pl (x := (.frz, strsD ws)) rfl ?_)
      refine Ok.ite rfl (Ok.bind (Ok.opt (a := ws.map fun w => ((.frz, .str w) : SD)) ?_ (Ok.pure ⟨[], ws, none, none, rfl, rfl, rfl⟩)))
      show some ((ws.map D.str).map fun d => ((.frz, d) : SD)) = _
      rw [List.map_map]
      rfl
    · rintro x xs e ⟨pre, rest, a, b, q1, q2, rfl⟩
      cases rest with
      | nil => cases q2
      | cons w rest =>
        injection q2 with e1 e2
        subst e1
        have hlen : pre.length < 8 := by
          have := congrArg List.length q1
          rw [List.length_append, List.length_cons] at this
          omega
        have hnin : w ∉ pre := by
          have := h.wd
          rw [← q1, List.nodup_append] at this
          intro hm
          exact this.2.2 w hm w (.head _) rfl
        have hren : ren ws w = nmk pre.length := by
          unfold ren
          rw [← q1, List.idxOf_append, if_neg hnin, List.idxOf_cons_self]
          congr 1
          omega
        refine Ok.of (a := ()) (e := en pre none (some (.frz, .int (pre.length : Int))) (some (.frz, .str w))) rfl ?_
        refine ss_cons (st_seti ((Ev.app2 (x := (.frz, .str (T (js.drop pre.length)))) (y := (.frz, .str (T (js.take pre.length)))) (r := (.frz, .str (ren ws w))) (Ev.app2 (Ev.cst (d := .str ("jasonbke" : Str))) (Ev.pl (p := .var 4) (x := (.frz, .int (pre.length : Int))) rfl) ?_) (Ev.app2 (Ev.cst (d := .str ("jasonbke" : Str))) (Ev.pl (p := .var 4) (x := (.frz, .int (pre.length : Int))) rfl) ?_) ?_).ok ⟨(.dic .frz, .dic (tb pre)), (.frz, .str (ren ws w)), rfl, rfl, (Ev.pl (p := .var 5) (x := (.frz, .str w)) rfl).ok ⟨(.dic .frz, .dic (tb (pre ++ [w]))), _, rfl, ?_, rfl, ss_nil ⟨pre ++ [w], rest, _, _, by rw [List.append_assoc]; exact q1, ?_, rfl⟩⟩⟩))
        · rw [jsT]
          exact slT_lo (by decide)
        · rw [jsT]
          exact slT_hi (by decide)
        · rw [hren]
          exact addT (by rw [List.length_drop, List.length_take]; show (8 - pre.length) + min pre.length 8 ≤ 1000; omega)
        · show (if (tb pre).length < sizeLine then some (((.dic .frz, .dic (putA (Sum.inr w : Key) (.str (ren ws w)) (tb pre))) : SD)) else none) = _
          have hl : (tb pre).length < sizeLine := by
            show (pre.map _).length < sizeLine
            rw [List.length_map, sizeLine_eq]
            omega
          have hn2 : (Sum.inr w : Key) ∉ (tb pre).map (·.1) := by
            intro hm
            obtain ⟨p, hp, e⟩ := List.mem_map.mp hm
            obtain ⟨v, hv, rfl⟩ := List.mem_map.mp hp
            injection e with e
            rw [e] at hv
            exact hnin hv
          rw [if_pos hl, putA_new hn2]
          show some ((.dic .frz, .dic (tb pre ++ [(.inr w, .str (ren ws w))])) : SD) = some (.dic .frz, .dic ((pre ++ [w]).map fun w => (.inr w, .str (ren ws w))))
          rw [List.map_append]
          rfl
        · rw [List.length_append, List.length_singleton]
          exact e2
    · rintro e ⟨pre, rest, a, b, q1, q2, rfl⟩
      cases rest with
      | nil =>
        rw [List.append_nil] at q1
        exact ⟨a, b, by rw [q1]⟩
      | cons _ _ => cases q2
  rintro _ ⟨a, b, rfl⟩
  have hget : ∀ w ∈ ws, assoc (Sum.inr w : Key) (tb ws) = some (.str (ren ws w)) := fun w hw => by
    have := dc_get (l := ws.map fun w => (w, D.str (ren ws w))) (p := (w, .str (ren ws w))) (by rw [List.map_map]; exact (List.map_id ws).symm ▸ h.wd) (List.mem_map.mpr ⟨w, hw, rfl⟩)
    rw [List.map_map] at this
    exact this
  refine seq (fun e => e = en ws (some (.lst .frz, .lst ((dk.map fun p => (p.1, p.2.map (ren ws))).map dskD))) a b) ?_ ?_
  · have hlc := lc_pure (sg := P.sg) (cl := callD P (n + 1)) (env := en ws none a b) (own := [6, 7]) (tg := .tup (.cons (.nm 6) (.cons (.nm 7) .nil))) (it := .e (.pl (.ix (.var 1) (.cst (.int (1)))))) (ifs := .nil) (elt := .tup (.cons (.fz 6) (.cons (.lc [5] (.nm 5) (.e (.pl (.var 7))) .nil (.pl (.ix (.var 2) (.var 5))) .frz) .nil))) (s := .frz) (xs := dk.map fun p => (.frz, dskD p))
      (fun _ => true) (fun x => match x.2 with | .tup [.str z, .lst cs] => .tup [.str z, .lst (cs.map fun c => match c with | .str c => .str (ren ws c) | _ => .non)] | _ => .non) (its_ev (Ev.pl (p := .ix (.var 1) (.cst (.int (1)))) (x := (.frz, .lst (dk.map dskD))) rfl) ?_) (by rw [List.length_map, sizeLine_eq]; omega) ?_
    · rw [List.filter_eq_self.mpr (fun _ _ => rfl), List.map_map] at hlc
      refine st_set (hlc.ok ⟨_, rfl, ?_⟩)
      have e : dk.map ((fun x : SD => match x.2 with | .tup [.str z, .lst cs] => D.tup [.str z, .lst (cs.map fun c => match c with | .str c => .str (ren ws c) | _ => .non)] | _ => .non) ∘ fun p => (.frz, dskD p)) = (dk.map fun p => (p.1, p.2.map (ren ws))).map dskD := by
        rw [List.map_map]
        refine List.map_congr_left fun p _ => ?_
        show D.tup [.str p.1, .lst ((p.2.map D.str).map _)] = D.tup [.str p.1, .lst ((p.2.map (ren ws)).map D.str)]
        rw [List.map_map, List.map_map]
        rfl
      rw [e]
      rfl
    · show some ((dk.map dskD).map _) = _
      rw [List.map_map]
      rfl
    · intro x hx e he
      obtain ⟨p, hp, rfl⟩ := List.mem_map.mp hx
      have hcr := h.cr p hp
      have hcl := crew_len hcr
      have hw40 := h.w40
      rw [he]
      refine Ok.of (a := ()) (e := [some (bg g1), some (.frz, partsD ws dk), some (.dic .frz, .dic (tb ws)), none, a, b, some (.frz, .str p.1), some (.frz, strsD p.2)]) rfl (Ok.pure ⟨rfl, rfl, fun _ => ?_⟩)
      refine ev_tup (evG_cons (ev_fz rfl rfl rfl ⟨(.frz, .str p.1), rfl, evG_cons ((lc_ren (ws := ws) (kvs := tb ws) (Ev.pl (p := .var 7) (x := (.frz, strsD p.2)) rfl) (by omega) ?_ rfl fun c hc => hget c (hcr.sub c hc)).ok ⟨_, rfl, evG_nil ⟨_, rfl, ?_, rfl⟩⟩)⟩))
      · show 5 < 8
        decide
      show D.tup [.str p.1, .lst ((p.2.map (ren ws)).map D.str)] = D.tup [.str p.1, .lst ((p.2.map D.str).map _)]
      rw [List.map_map, List.map_map]
      rfl
  rintro _ rfl
  refine ss_cons (st_ret (ev_tup (evG_cons ((lc_ren (ws := ws) (kvs := tb ws) (Ev.pl (p := .ix (.var 1) (.cst (.int 0))) (x := (.frz, strsD ws)) rfl) (by omega) ?_ rfl hget).ok ⟨(.lst .frz, strsD (ws.map (ren ws))), rfl, evG_cons (ev_fz (s := .lst .frz) rfl rfl rfl ⟨_, rfl, evG_nil ⟨_, rfl, g1, .tup [.lst .frz, .frz], _, _, k1, .inr rfl, parts_ren h h8, rfl, rfl⟩⟩)⟩))))
  show 5 < 8
  decide
end DI.PL
/-! PL19: Roster.workers, Roster.desks_of; calls are served. -/
namespace DI.PL
open PySem DI
def workersM_c : Ss := (.cons (.ret (.app .list (.cons (.pl (.attr (.var 0) 0)) .nil))) .nil)
def desksOf_c : Ss := (.cons (.ife (.app .notIn (.cons (.pl (.var 1)) (.cons (.pl (.attr (.var 0) 0)) .nil))) (.cons .wall .nil) .nil) (.cons (.ret (.lc [2] (.nm 2) (.e (.mcall 0 15 (.pl (.var 0)) .nil)) (.cons (.app .isIn (.cons (.pl (.var 1)) (.cons (.pl (.ix (.attr (.var 0) 1) (.var 2))) .nil))) .nil) (.fz 2) .frz)) .nil))
structure Std4 (P : Prog) : Prop extends Std3 P where
  d17 : P.defs 17 = some (3, desksOf_c)
  m17 : P.sg.modes 17 = [.bor, .bor]
structure Std5 (P : Prog) : Prop extends Std4 P where
  d14 : P.defs 14 = some (1, workersM_c)
  m14 : P.sg.modes 14 = [.bor]
variable {P : Prog} {n : Nat}
theorem ros_gd (S : Std2 P) {ws : List Str} {dk : List (Str × List Str)} : ([(0, strsD (sortS ws)), (1, D.dic (tabD dk))] : List (Nat × D)).all (fun z => P.sg.gd 0 z.1) = true := by
  show (P.sg.gd 0 0 && (P.sg.gd 0 1 && true)) = true
  rw [S.g0, S.g1]
  rfl
theorem ros_0 (S : Std2 P) {env : Env} {i : Nat} {ws : List Str} {dk : List (Str × List Str)} (h : env[i]? = some (some (.bor, rosD ws dk))) : (Pl.attr (.var i) 0).get P.sg.gd env = some (.bor, strsD (sortS ws)) := by
  show (match env[i]? with | some (some x) => some x | _ => none : Option SD).bind (fun x => attrOf P.sg.gd x 0) = _
  rw [h]
  show (if P.sg.gd 0 0 = true then _ else none) = _
  rw [S.g0]
  rfl
theorem ros_1 (S : Std2 P) {env : Env} {i : Nat} {ws : List Str} {dk : List (Str × List Str)} (h : env[i]? = some (some (.bor, rosD ws dk))) : (Pl.attr (.var i) 1).get P.sg.gd env = some (.bor, .dic (tabD dk)) := by
  show (match env[i]? with | some (some x) => some x | _ => none : Option SD).bind (fun x => attrOf P.sg.gd x 1) = _
  rw [h]
  show (if P.sg.gd 0 1 = true then _ else none) = _
  rw [S.g1]
  rfl
theorem ros_ix (S : Std2 P) {env : Env} {i j : Nat} {ws : List Str} {dk : List (Str × List Str)} {p : Str × List Str} (h : env[i]? = some (some (.bor, rosD ws dk))) (hj : env[j]? = some (some (.frz, .str p.1))) (hn : (dk.map (·.1)).Nodup) (hp : p ∈ dk) : (Pl.ix (.attr (.var i) 1) (.var j)).get P.sg.gd env = some (.bor, strsD (sortS p.2)) := by
  show ((Pl.attr (.var i) 1).get P.sg.gd env).bind (fun x => (match env[j]? with | some (some (_, d)) => if d.scal = true then some d else none | _ => none : Option D).bind fun d => itemOf x d) = _
  rw [ros_1 S h, hj]
  show ((assoc (Sum.inr p.1 : Key) (tabD dk)).map fun d => ((.bor, d) : SD)) = _
  rw [tab_get hn hp]
  rfl
theorem ev_desks (S : Std3 P) {env : Env} {i : Nat} {ws : List Str} {dk : List (Str × List Str)} (h : env[i]? = some (some (.bor, rosD ws dk))) (hd : dk.length ≤ 60) : Ev P.sg (callD P (n + 1)) env (.mcall 0 15 (.pl (.var i)) .nil) (.lst .frz, strsD (sortS (dk.map (·.1)))) := by
  have hp : (Pl.var i).get P.sg.gd env = some (.bor, rosD ws dk) := by
    show (match env[i]? with | some (some x) => some x | _ => none : Option SD) = _
    rw [h]
  obtain ⟨r', e, h1, rfl, rfl⟩ : Ok (ev P.sg (callD P (n + 1)) (.mcall 0 15 (.pl (.var i)) .nil)) env fun r' e => r' = (.lst .frz, strsD (sortS (dk.map (·.1)))) ∧ e = env :=
    ev_mcall (ca := .val (.bor, rosD ws dk)) S.m15 (Ev.pl hp) (ros_gd S.toStd2) rfl (evC_nil ⟨_, _, _, _, rfl, desks_ok S hd, rfl, rfl, rfl, rfl⟩)
  exact h1
theorem workersM_ok (S : Std5 P) {ws : List Str} {dk : List (Str × List Str)} : callD P (n + 1) 14 [(.bor, rosD ws dk)] = some (.ok (.lst .frz, strsD (sortS ws)) [none]) := by
  suffices h : ∃ r outs, callD P (n + 1) 14 [(.bor, rosD ws dk)] = some (.ok r outs) ∧ r = (.lst .frz, strsD (sortS ws)) ∧ outs = [none] by
    obtain ⟨r, outs, hc, rfl, rfl⟩ := h
    exact hc
  refine call_ok S.d14 ?_
  rw [S.m14]
  show Ok (sts P.sg (callD P n) workersM_c) [some (.bor, rosD ws dk)] _
  exact ss_cons (st_ret ((Ev.app1 (Ev.pl (ros_0 S.toStd2 rfl)) list_strs).ok ⟨_, rfl, rfl, rfl⟩))
/-- the desks that a worker may serve -/
def desksOf (dk : List (Str × List Str)) (w : Str) : List Str := (sortS (dk.map (·.1))).filter fun z => decide (w ∈ crewOf dk z)
theorem desksOf_ok (S : Std4 P) {ws : List Str} {dk : List (Str × List Str)} (h : PartsOk ws dk) {w : Str} (hw : w ∈ ws) : callD P (n + 2) 17 [(.bor, rosD ws dk), (.frz, .str w)] = some (.ok (.lst .frz, strsD (desksOf dk w)) [none, none]) := by
  suffices hh : ∃ r outs, callD P (n + 2) 17 [(.bor, rosD ws dk), (.frz, .str w)] = some (.ok r outs) ∧ r = (.lst .frz, strsD (desksOf dk w)) ∧ outs = [none, none] by
    obtain ⟨r, outs, hc, rfl, rfl⟩ := hh
    exact hc
  have hd := h.d60
  have hok : ∀ c ∈ ws, okS c := fun c hc => okS_nm (h.wn c hc)
  refine call_ok S.d17 ?_
  rw [S.m17]
  show Ok (sts P.sg (callD P (n + 1)) desksOf_c) [some (.bor, rosD ws dk), some (.frz, .str w), none] _
  refine seq (fun e => e = [some (.bor, rosD ws dk), some (.frz, .str w), none]) (ife_no (s := .frz) (Ev.app2 (x := (.frz, .str w)) (Ev.pl (p := .var 1) rfl) (Ev.pl (ros_0 S.toStd2 rfl)) ?_) rfl) ?_
  · rw [sem_notIn, in_strs (fun c hc => hok c (mem_sortS.mp hc)) (hok w hw), decide_eq_true (mem_sortS.mpr hw)]
    rfl
  rintro _ rfl
  have := lc_nm (sg := P.sg) (cl := callD P (n + 1)) (env := [some (.bor, rosD ws dk), some (.frz, .str w), none]) (o := 2) (it := .e (.mcall 0 15 (.pl (.var 0)) .nil)) (ifs := .cons (.app .isIn (.cons (.pl (.var 1)) (.cons (.pl (.ix (.attr (.var 0) 1) (.var 2))) .nil))) .nil) (elt := .fz 2) (s := .frz) (xs := (sortS (dk.map (·.1))).map fun z => (.frz, .str z))
    (fun x => match x.2 with | .str z => decide (w ∈ crewOf dk z) | _ => false) (fun x => x.2) (its_ev (ev_desks S.toStd3 rfl hd) ?_) (by rw [List.length_map, (perm_sortS _).length_eq, List.length_map]; omega) ?_
  · have e : (((sortS (dk.map (·.1))).map fun z => ((.frz, .str z) : SD)).filter fun x => match x.2 with | .str z => decide (w ∈ crewOf dk z) | _ => false).map (fun x => x.2) = (desksOf dk w).map .str := by
      rw [List.filter_map, List.map_map]
      rfl
    rw [e] at this
    exact ss_cons (st_ret (this.ok ⟨_, rfl, rfl, rfl⟩))
  · show some (((sortS (dk.map (·.1))).map D.str).map _) = _
    rw [List.map_map]
    rfl
  · intro x hx
    obtain ⟨z, hz, rfl⟩ := List.mem_map.mp hx
    obtain ⟨p, hp, rfl⟩ := List.mem_map.mp (mem_sortS.mp hz)
    have hcr := h.cr p hp
    have hc : Ev P.sg (callD P (n + 1)) [some (.bor, rosD ws dk), some (.frz, .str w), some (.frz, .str p.1)] (.app .isIn (.cons (.pl (.var 1)) (.cons (.pl (.ix (.attr (.var 0) 1) (.var 2))) .nil))) (.frz, .bl (decide (w ∈ sortS p.2))) := by
      refine Ev.app2 (x := (.frz, .str w)) (Ev.pl (p := .var 1) rfl) (Ev.pl (ros_ix S.toStd2 rfl rfl h.dd hp)) ?_
      rw [sem_in, in_strs (fun c hc => hok c (hcr.sub c (mem_sortS.mp hc))) (hok w hw)]
      rfl
    refine Ok.bind (hc.ok (Ok.opt (a := decide (w ∈ sortS p.2)) rfl ⟨?_, rfl, fun _ => ev_fz rfl rfl rfl ⟨_, rfl, rfl, rfl⟩⟩))
    show decide (w ∈ sortS p.2) = decide (w ∈ crewOf dk p.1)
    rw [crewOf_at h.dd hp, Bool.eq_iff_iff, decide_eq_true_eq, decide_eq_true_eq]
    exact mem_sortS
/-- one goes to the front -/
def front (line : List Str) (w : Str) : List Str := w :: line.filter fun x => !decide (x = w)
theorem front_perm {line : List Str} (hn : line.Nodup) {w : Str} (hw : w ∈ line) : (front line w).Perm line := by
  obtain ⟨a, b, rfl⟩ := List.append_of_mem hw
  have h1 := List.nodup_append.mp hn
  have h2 := List.nodup_cons.mp h1.2.1
  have e : (a ++ w :: b).filter (fun x => !decide (x = w)) = a ++ b := by
    rw [List.filter_append, List.filter_cons_of_neg (by simp)]
    congr 1
    · exact List.filter_eq_self.mpr fun x hx => by
        have : x ≠ w := fun e => h1.2.2 x hx w (.head _) e
        simp [this]
    · exact List.filter_eq_self.mpr fun x hx => by
        have : x ≠ w := fun e => h2.1 (e ▸ hx)
        simp [this]
  unfold front
  rw [e]
  exact List.perm_middle.symm
def toFront_c : Ss := (.cons (.ret (.app .add (.cons (.lst .frz (.cons (.fz 1) .nil)) (.cons (.lc [2] (.nm 2) (.e (.pl (.var 0))) (.cons (.app .ne (.cons (.pl (.var 2)) (.cons (.pl (.var 1)) .nil))) .nil) (.fz 2) .frz) .nil)))) .nil)
theorem toFront_ok {f : Nat} (hd : P.defs f = some (3, toFront_c)) (hm : P.sg.modes f = [.bor, .bor]) {line : List Str} {w : Str} (hl : ∀ x ∈ line, okS x) (hw : okS w) (hll : line.length ≤ 900) : callD P (n + 1) f [(.bor, strsD line), (.frz, .str w)] = some (.ok (.lst .frz, strsD (front line w)) [none, none]) := by
  suffices hh : ∃ r outs, callD P (n + 1) f [(.bor, strsD line), (.frz, .str w)] = some (.ok r outs) ∧ r = (.lst .frz, strsD (front line w)) ∧ outs = [none, none] by
    obtain ⟨r, outs, hc, rfl, rfl⟩ := hh
    exact hc
  refine call_ok hd ?_
  rw [hm]
  show Ok (sts P.sg (callD P n) toFront_c) [some (.bor, strsD line), some (.frz, .str w), none] _
  have := lc_nm (sg := P.sg) (cl := callD P n) (env := [some (.bor, strsD line), some (.frz, .str w), none]) (o := 2) (it := .e (.pl (.var 0))) (ifs := .cons (.app .ne (.cons (.pl (.var 2)) (.cons (.pl (.var 1)) .nil))) .nil) (elt := .fz 2) (s := .frz) (xs := line.map fun x => (.frz, .str x))
    (fun x => match x.2 with | .str z => !decide (z = w) | _ => false) (fun x => x.2) (its_ev (Ev.pl (p := .var 0) (x := (.bor, strsD line)) rfl) ?_) (by rw [List.length_map]; omega) ?_
  · have e : ((line.map fun z => ((.frz, .str z) : SD)).filter fun x => match x.2 with | .str z => !decide (z = w) | _ => false).map (fun x => x.2) = (line.filter fun x => !decide (x = w)).map .str := by
      rw [List.filter_map, List.map_map]
      rfl
    rw [e] at this
    refine ss_cons (st_ret (ev_app2 (ev_lst (evG_cons (ev_fz (s := .frz) rfl rfl rfl ⟨(.frz, .str w), rfl, evG_nil (this.ok ⟨(.lst .frz, strsD (front line w)), ?_, _, rfl, rfl, rfl⟩)⟩)))))
    have hle := List.length_filter_le (fun x => !decide (x = w)) line
    exact addL (as := [.str w]) (by rw [List.length_map]; show 1 + _ ≤ 1000; omega)
  · show some ((line.map D.str).map _) = _
    rw [List.map_map]
    rfl
  · intro x hx
    obtain ⟨z, hz, rfl⟩ := List.mem_map.mp hx
    have hc : Ev P.sg (callD P n) [some (.bor, strsD line), some (.frz, .str w), some (.frz, .str z)] (.app .ne (.cons (.pl (.var 2)) (.cons (.pl (.var 1)) .nil))) (.frz, .bl (!decide (z = w))) := by
      refine Ev.app2 (x := (.frz, .str z)) (y := (.frz, .str w)) (Ev.pl (p := .var 2) rfl) (Ev.pl (p := .var 1) rfl) ?_
      rw [sem_ne, eqv_str (hl z hz) hw]
      rfl
    exact Ok.bind (hc.ok (Ok.opt (a := !decide (z = w)) rfl ⟨rfl, rfl, fun _ => ev_fz rfl rfl rfl ⟨_, rfl, rfl, rfl⟩⟩))
end DI.PL
/-! PL20: serve, masters. -/
namespace DI.PL
open PySem DI
variable {P : Prog} {n : Nat}
theorem firstIn_front {cs line : List Str} {s : Str} : firstIn cs (front line s) = if s ∈ cs then s else firstIn cs line := by
  unfold firstIn front
  by_cases h : s ∈ cs
  · rw [if_pos h, List.filter_cons_of_pos (by rw [decide_eq_true_eq]; exact h)]
    rfl
  · rw [if_neg h, List.filter_cons_of_neg (by rw [decide_eq_true_eq]; exact h), List.filter_filter]
    congr 2
    refine List.filter_congr fun x _ => ?_
    by_cases hx : x ∈ cs
    · have : x ≠ s := fun e => h (e ▸ hx)
      simp [hx, this]
    · simp [hx]
theorem kOf_mem {ws line : List Str} {dk : List (Str × List Str)} (h : PartsOk ws dk) (hl : line.Perm ws) {p : Str × List Str} (hp : p ∈ dk) : kOf dk line p.1 ∈ p.2 ∧ kOf dk line p.1 ∈ line := by
  have hcr := h.cr p hp
  unfold kOf
  rw [crewOf_at h.dd hp]
  have := List.mem_filter.mp (List.mem_of_getElem? (firstIn_at (line := line) hcr.ne fun c hc => hl.mem_iff.mpr (hcr.sub c hc)))
  exact ⟨of_decide_eq_true this.2, this.1⟩
def serve_c (F G : Nat) : Ss := (.cons (.ife (.app .notIn (.cons (.pl (.var 2)) (.cons (.mcall 0 15 (.pl (.var 0)) .nil) .nil))) (.cons .wall .nil) .nil) (.cons (.asg (.nm 3) (.call F (.cons (.mcall 0 16 (.pl (.var 0)) (.cons (.pl (.var 2)) .nil)) (.cons (.pl (.var 1)) .nil)))) (.cons (.ret (.tup (.cons (.fz 3) (.cons (.call G (.cons (.pl (.var 1)) (.cons (.pl (.var 3)) .nil))) .nil)))) .nil)))
/-- how calls are served, by number -/
structure Srv (P : Prog) (f F G : Nat) : Prop where
  d : P.defs f = some (4, serve_c F G)
  m : P.sg.modes f = [.bor, .bor, .bor]
  dF : P.defs F = some (3, firstOf_c)
  mF : P.sg.modes F = [.bor, .bor]
  dG : P.defs G = some (3, toFront_c)
  mG : P.sg.modes G = [.bor, .bor]
theorem serve_ok (S : Std3 P) {f F G : Nat} (V : Srv P f F G) {ws line : List Str} {dk : List (Str × List Str)} (h : PartsOk ws dk) (hl : line.Perm ws) {p : Str × List Str} (hp : p ∈ dk) :
    callD P (n + 2) f [(.bor, rosD ws dk), (.bor, strsD line), (.frz, .str p.1)] = some (.ok (.tup [.frz, .lst .frz], .tup [.str (kOf dk line p.1), strsD (front line (kOf dk line p.1))]) [none, none, none]) := by
  suffices hh : ∃ r outs, callD P (n + 2) f [(.bor, rosD ws dk), (.bor, strsD line), (.frz, .str p.1)] = some (.ok r outs) ∧ r = (.tup [.frz, .lst .frz], .tup [.str (kOf dk line p.1), strsD (front line (kOf dk line p.1))]) ∧ outs = [none, none, none] by
    obtain ⟨r, outs, hc, rfl, rfl⟩ := hh
    exact hc
  have hw := h.w40
  have hd := h.d60
  have hll : line.length ≤ 40 := by rw [hl.length_eq]; exact hw
  have hln : ∀ w ∈ line, okS w := fun w hw => okS_nm (h.wn w (hl.mem_iff.mp hw))
  have hcr := h.cr p hp
  have hne : sortS p.2 ≠ [] := fun e => hcr.ne (by
    have := (perm_sortS p.2)
    rw [e] at this
    exact this.nil_eq.symm)
  have hkk : firstIn (sortS p.2) line = kOf dk line p.1 := by
    unfold kOf
    rw [crewOf_at h.dd hp, firstIn_sort]
  have hkl := (kOf_mem h hl hp).2
  have zn : p.1 ∈ sortS (dk.map (·.1)) := mem_sortS.mpr (List.mem_map.mpr ⟨p, hp, rfl⟩)
  refine call_ok V.d ?_
  rw [V.m]
  show Ok (sts P.sg (callD P (n + 1)) (serve_c F G)) [some (.bor, rosD ws dk), some (.bor, strsD line), some (.frz, .str p.1), none] _
  refine seq (fun e => e = [some (.bor, rosD ws dk), some (.bor, strsD line), some (.frz, .str p.1), none]) (ife_no (s := .frz) (Ev.app2 (x := (.frz, .str p.1)) (Ev.pl (p := .var 2) rfl) (ev_desks S rfl hd) ?_) rfl) ?_
  · rw [sem_notIn, in_strs (fun c hc => by
      obtain ⟨q, hq, rfl⟩ := List.mem_map.mp (mem_sortS.mp hc)
      exact okS_nm (h.dn q hq)) (okS_nm (h.dn p hp)), decide_eq_true zn]
    rfl
  rintro _ rfl
  have hcw : Ev P.sg (callD P (n + 1)) [some (.bor, rosD ws dk), some (.bor, strsD line), some (.frz, .str p.1), none] (.mcall 0 16 (.pl (.var 0)) (.cons (.pl (.var 2)) .nil)) (.lst .frz, strsD (sortS p.2)) := by
    obtain ⟨r', e, h1, rfl, rfl⟩ : Ok (ev P.sg (callD P (n + 1)) (.mcall 0 16 (.pl (.var 0)) (.cons (.pl (.var 2)) .nil))) [some (.bor, rosD ws dk), some (.bor, strsD line), some (.frz, .str p.1), none] fun r' e => r' = (.lst .frz, strsD (sortS p.2)) ∧ e = [some (.bor, rosD ws dk), some (.bor, strsD line), some (.frz, .str p.1), none] :=
      ev_mcall (ca := .val (.bor, rosD ws dk)) S.m16 (Ev.pl (p := .var 0) rfl) (ros_gd S.toStd2) rfl (evC_val rfl (ev_pl (x := (.frz, .str p.1)) rfl ⟨.val (.frz, .str p.1), rfl, evC_nil ⟨_, _, _, _, rfl, crewM_ok S.toStd2 S.d16 S.m16 h.dd hp, rfl, rfl, rfl, rfl⟩⟩))
    exact h1
  have hfo := firstOf_ok (n := n) V.dF V.mF hln (by omega) hne (fun c hc => hl.mem_iff.mpr (hcr.sub c (mem_sortS.mp hc)))
  rw [hkk] at hfo
  refine seq (fun e => e = [some (.bor, rosD ws dk), some (.bor, strsD line), some (.frz, .str p.1), some (.frz, .str (kOf dk line p.1))]) (st_set (ev_call V.mF (evC_val rfl (hcw.ok ⟨.val (.bor, strsD (sortS p.2)), rfl, evC_val rfl (ev_pl (x := (.bor, strsD line)) rfl ⟨.val (.bor, strsD line), rfl, evC_nil ⟨_, _, _, _, rfl, hfo, rfl, rfl, _, rfl, rfl⟩⟩)⟩)))) ?_
  rintro _ rfl
  exact ss_cons (st_ret (ev_tup (evG_cons (ev_fz (s := .frz) rfl rfl rfl ⟨(.frz, .str (kOf dk line p.1)), rfl, evG_cons (ev_call V.mG (evC_val rfl (ev_pl (x := (.bor, strsD line)) rfl ⟨.val (.bor, strsD line), rfl, evC_val rfl (ev_pl (x := (.frz, .str (kOf dk line p.1))) rfl ⟨.val (.frz, .str (kOf dk line p.1)), rfl, evC_nil ⟨_, _, _, _, rfl, toFront_ok V.dG V.mG hln (hln _ hkl) (by omega), rfl, rfl, _, rfl, evG_nil ⟨_, rfl, rfl, rfl⟩⟩⟩)⟩)))⟩))))
section
variable {sg : Sig} {cl : Calls} {env : Env}
theorem bls_of {α : Type} {b : α → Bool} : ∀ xs : List α, blsOf (xs.map fun x => D.bl (b x)) = some (xs.map b)
  | [] => rfl
  | x :: xs => by
    show (blsOf (xs.map fun x => D.bl (b x))).map _ = _
    rw [bls_of xs]
    rfl
theorem Ev.allB {o : Nat} {it : It} {elt : E} {xs : List SD} {b : SD → Bool} (h : its sg cl it env = some (.ok xs env)) (hl : xs.length ≤ 1000)
    (step : ∀ x ∈ xs, Ev sg cl (env.set o (some x)) elt (.frz, .bl (b x))) :
    Ev sg cl env (.app .all (.cons (.lc [o] (.nm o) it .nil elt .frz) .nil)) (.frz, .bl (xs.all b)) := by
  refine Ev.app1 (lc_nm (fun _ => true) (fun x => .bl (b x)) h hl fun x hx => Ok.pure ⟨rfl, List.set_set .., fun _ => (step x hx).ok ⟨(.frz, .bl (b x)), takeAs_frz, rfl, List.set_set ..⟩⟩) ?_
  rw [List.filter_eq_self.mpr (fun _ _ => rfl)]
  show (blsOf (xs.map fun x => D.bl (b x))).bind _ = _
  rw [bls_of]
  show sc (.bl ((xs.map b).all id)) = _
  rw [List.all_map]
  rfl
end
/-- a keepers list, as a new list, made a dict -/
theorem dict_gPL {κ : Str → Str} {zs : List Str} (hn : zs.Nodup) {s : Sh} (hs : s = .frz ∨ s = .lst .frz) : sem1 .dict (s, .lst (zs.map (gP κ))) = some (.dic .frz, dcD (zs.map fun m => (m, .str (κ m)))) := by
  have := dict_ok (l := zs.map fun m => (m, D.str (κ m))) (by rw [List.map_map]; exact (List.map_id zs).symm ▸ hn)
  rw [List.map_map] at this
  rcases hs with rfl | rfl <;> exact this
theorem dcg_get {κ : Str → Str} {zs : List Str} (hn : zs.Nodup) {z : Str} (hz : z ∈ zs) {s : Sh} (hs : s = .frz ∨ s = .dic .frz) : itemOf (s, dcD (zs.map fun m => (m, .str (κ m)))) (.str z) = some (.frz, .str (κ z)) := by
  have : ((assoc (Sum.inr z : Key) ((zs.map fun m => (m, D.str (κ m))).map fun p => (.inr p.1, p.2))).map fun d => ((.frz, d) : SD)) = some (.frz, .str (κ z)) := by
    rw [dc_get (l := zs.map fun m => (m, D.str (κ m))) (p := (z, .str (κ z))) (by rw [List.map_map]; exact (List.map_id zs).symm ▸ hn) (List.mem_map.mpr ⟨z, hz, rfl⟩)]
    rfl
  rcases hs with rfl | rfl <;> exact this
def masters_c (F : Nat) : Ss := (.cons (.asg (.nm 2) (.app .dict (.cons (.call F (.cons (.pl (.var 0)) (.cons (.pl (.var 1)) .nil))) .nil))) (.cons (.asg (.nm 3) (.lst .frz .nil)) (.cons (.for (.nm 4) (.e (.mcall 0 14 (.pl (.var 0)) .nil)) (.cons (.asg (.nm 5) (.mcall 0 17 (.pl (.var 0)) (.cons (.pl (.var 4)) .nil))) (.cons (.ife (.and (.app .ne (.cons (.pl (.var 5)) (.cons (.lst .frz .nil) .nil))) (.app .all (.cons (.lc [6] (.nm 6) (.e (.pl (.var 5))) .nil (.app .eq (.cons (.pl (.ix (.var 2) (.var 6))) (.cons (.pl (.var 4)) .nil))) .frz) .nil))) (.cons (.exp (.mut .append (.var 3) (.cons (.fz 4) .nil))) .nil) .nil) .nil))) (.cons (.ret (.fz 3)) .nil))))
def isM (dk : List (Str × List Str)) (line : List Str) (w : Str) : Bool := !(desksOf dk w).isEmpty && (desksOf dk w).all fun d => decide (kOf dk line d = w)
def mastersL (ws : List Str) (dk : List (Str × List Str)) (line : List Str) : List Str := (sortS ws).filter (isM dk line)
theorem eqv_strsE {cs : List Str} (h : ∀ z ∈ cs, okS z) : eqvD (strsD cs) (.lst []) = some cs.isEmpty := by
  cases cs with
  | nil => rfl
  | cons c cs => exact eqv_strsN h (by simp)
theorem masters_ok (S : Std5 P) {f K F : Nat} (hd : P.defs f = some (7, masters_c K)) (hm : P.sg.modes f = [.bor, .bor]) (hdK : P.defs K = some (3, keepers_c F)) (hmK : P.sg.modes K = [.bor, .bor]) (hdF : P.defs F = some (3, firstOf_c)) (hmF : P.sg.modes F = [.bor, .bor])
    {ws line : List Str} {dk : List (Str × List Str)} (h : PartsOk ws dk) (hl : line.Perm ws) : callD P (n + 3) f [(.bor, rosD ws dk), (.bor, strsD line)] = some (.ok (.frz, strsD (mastersL ws dk line)) [none, none]) := by
  suffices hh : ∃ r outs, callD P (n + 3) f [(.bor, rosD ws dk), (.bor, strsD line)] = some (.ok r outs) ∧ r = (.frz, strsD (mastersL ws dk line)) ∧ outs = [none, none] by
    obtain ⟨r, outs, hc, rfl, rfl⟩ := hh
    exact hc
  have hw40 := h.w40
  have hd60 := h.d60
  have hzn : (sortS (dk.map (·.1))).Nodup := (perm_sortS _).nodup_iff.mpr h.dd
  have hkeep := keepers_ok (n := n) S.toStd3 hdK hmK hdF hmF h hl
  refine call_ok hd ?_
  rw [hm]
  show Ok (sts P.sg (callD P (n + 2)) (masters_c K)) [some (.bor, rosD ws dk), some (.bor, strsD line), none, none, none, none, none] _
  let KD : SD := (.dic .frz, dcD ((sortS (dk.map (·.1))).map fun m => (m, .str (kOf dk line m))))
  let en : Option SD → Option SD → Option SD → Option SD → Env := fun a b c d => [some (.bor, rosD ws dk), some (.bor, strsD line), a, b, c, d, none]
  refine seq (fun e => e = en (some KD) none none none) (st_set ((Ev.app1 (Ev.call2 hmK (Ev.pl (p := .var 0) (x := (.bor, rosD ws dk)) rfl) rfl (Ev.pl (p := .var 1) (x := (.bor, strsD line)) rfl) rfl hkeep rfl) (dict_gPL hzn (.inr rfl))).ok ⟨_, rfl, rfl⟩)) ?_
  rintro _ rfl
  refine seq (fun e => e = en (some KD) (some (.lst .frz, strsD [])) none none) (st_set (Ev.nilL.ok ⟨_, rfl, rfl⟩)) ?_
  rintro _ rfl
  refine seq (fun e => ∃ c d, e = en (some KD) (some (.lst .frz, strsD (mastersL ws dk line))) c d) ?_ ?_
  rotate_left
  · rintro _ ⟨c, d, rfl⟩
    exact ss_cons (st_ret (ev_fz (s := .lst .frz) rfl rfl rfl ⟨_, rfl, rfl, rfl⟩))
  have hwk : Ev P.sg (callD P (n + 2)) (en (some KD) (some (.lst .frz, strsD [])) none none) (.mcall 0 14 (.pl (.var 0)) .nil) (.lst .frz, strsD (sortS ws)) := by
    obtain ⟨r', e, h1, rfl, rfl⟩ : Ok (ev P.sg (callD P (n + 2)) (.mcall 0 14 (.pl (.var 0)) .nil)) (en (some KD) (some (.lst .frz, strsD [])) none none) fun r' e => r' = (.lst .frz, strsD (sortS ws)) ∧ e = (en (some KD) (some (.lst .frz, strsD [])) none none) :=
      ev_mcall (ca := .val (.bor, rosD ws dk)) S.m14 (Ev.pl (p := .var 0) rfl) (ros_gd S.toStd2) rfl (evC_nil ⟨_, _, _, _, rfl, workersM_ok S, rfl, rfl, rfl, rfl⟩)
    exact h1
  refine st_for (fun rem e => ∃ (pre rest : List Str) (c d : Option SD), pre ++ rest = sortS ws ∧ rem = rest.map (fun w => (.frz, .str w)) ∧ e = en (some KD) (some (.lst .frz, strsD (pre.filter (isM dk line)))) c d) (Ok.of (its_ev hwk (xs := (sortS ws).map fun w => (.frz, .str w)) ?_) ⟨[], sortS ws, none, none, rfl, rfl, rfl⟩) ?_ ?_
  · show some (((sortS ws).map D.str).map _) = _
    rw [List.map_map]
    rfl
  · rintro x xs _ ⟨pre, rest, c, d, q1, q2, rfl⟩
    cases rest with
    | nil => cases q2
    | cons w rest =>
      injection q2 with e1 e2
      subst e1
      have hwm : w ∈ ws := mem_sortS.mp (by rw [← q1]; exact List.mem_append_right _ (.head _))
      have hplen : pre.length ≤ 40 := by
        have := congrArg List.length q1
        rw [(perm_sortS ws).length_eq, List.length_append] at this
        omega
      refine Ok.of (a := ()) (e := en (some KD) (some (.lst .frz, strsD (pre.filter (isM dk line)))) (some (.frz, .str w)) d) rfl ?_
      have hdo : ∀ z ∈ desksOf dk w, ∃ p ∈ dk, p.1 = z := fun z hz => by
        obtain ⟨p, hp, e⟩ := List.mem_map.mp (mem_sortS.mp (List.mem_filter.mp hz).1)
        exact ⟨p, hp, e⟩
      have hdl : (desksOf dk w).length ≤ 60 := by
        have := List.length_filter_le (fun z => decide (w ∈ crewOf dk z)) (sortS (dk.map (·.1)))
        rw [(perm_sortS _).length_eq, List.length_map] at this
        exact Nat.le_trans this hd60
      refine seq (fun e => e = en (some KD) (some (.lst .frz, strsD (pre.filter (isM dk line)))) (some (.frz, .str w)) (some (.lst .frz, strsD (desksOf dk w)))) (st_set (ev_mcall (ca := .val (.bor, rosD ws dk)) S.m17 (Ev.pl (p := .var 0) rfl) (ros_gd S.toStd2) rfl (evC_val rfl (ev_pl (x := (.frz, .str w)) rfl ⟨.val (.frz, .str w), rfl, evC_nil ⟨_, _, _, _, rfl, desksOf_ok S.toStd4 h hwm, rfl, rfl, _, rfl, rfl⟩⟩)))) ?_
      rintro _ rfl
      have hall : Ev P.sg (callD P (n + 2)) (en (some KD) (some (.lst .frz, strsD (pre.filter (isM dk line)))) (some (.frz, .str w)) (some (.lst .frz, strsD (desksOf dk w)))) (.app .all (.cons (.lc [6] (.nm 6) (.e (.pl (.var 5))) .nil (.app .eq (.cons (.pl (.ix (.var 2) (.var 6))) (.cons (.pl (.var 4)) .nil))) .frz) .nil)) (.frz, .bl ((desksOf dk w).all fun d => decide (kOf dk line d = w))) := by
        have := Ev.allB (sg := P.sg) (cl := callD P (n + 2)) (env := en (some KD) (some (.lst .frz, strsD (pre.filter (isM dk line)))) (some (.frz, .str w)) (some (.lst .frz, strsD (desksOf dk w)))) (o := 6) (it := .e (.pl (.var 5))) (elt := .app .eq (.cons (.pl (.ix (.var 2) (.var 6))) (.cons (.pl (.var 4)) .nil))) (xs := (desksOf dk w).map fun z => (.frz, .str z)) (b := fun x => match x.2 with | .str z => decide (kOf dk line z = w) | _ => false)
          (its_ev (Ev.pl (p := .var 5) (x := (.lst .frz, strsD (desksOf dk w))) rfl) (by
            show some (((desksOf dk w).map D.str).map _) = _
            rw [List.map_map]
            rfl)) (by rw [List.length_map]; omega) ?_
        · rw [List.all_map] at this
          exact this
        · intro x hx
          obtain ⟨z, hz, rfl⟩ := List.mem_map.mp hx
          obtain ⟨p, hp, rfl⟩ := hdo z hz
          have hzm : p.1 ∈ sortS (dk.map (·.1)) := mem_sortS.mpr (List.mem_map.mpr ⟨p, hp, rfl⟩)
          refine Ev.app2 (x := (.frz, .str (kOf dk line p.1))) (y := (.frz, .str w)) (Ev.pl (p := .ix (.var 2) (.var 6)) (dcg_get hzn hzm (.inr rfl))) (Ev.pl (p := .var 4) rfl) ?_
          exact eq_str (okS_nm (h.wn _ (hl.mem_iff.mp (kOf_mem h hl hp).2))) (okS_nm (h.wn w hwm))
      have hne : Ev P.sg (callD P (n + 2)) (en (some KD) (some (.lst .frz, strsD (pre.filter (isM dk line)))) (some (.frz, .str w)) (some (.lst .frz, strsD (desksOf dk w)))) (.app .ne (.cons (.pl (.var 5)) (.cons (.lst .frz .nil) .nil))) (.frz, .bl (!(desksOf dk w).isEmpty)) := by
        refine Ev.app2 (x := (.lst .frz, strsD (desksOf dk w))) (y := (.lst .frz, .lst [])) (Ev.pl (p := .var 5) rfl) Ev.nilL ?_
        rw [sem_ne, eqv_strsE fun z hz => by
          obtain ⟨p, hp, rfl⟩ := hdo z hz
          exact okS_nm (h.dn p hp)]
        rfl
      have hc := Ev.and hne hall rfl
      have fin : ∀ l c d, l = (pre ++ [w]).filter (isM dk line) → ∃ (pre' rest' : List Str) (c' d' : Option SD), pre' ++ rest' = sortS ws ∧ xs = rest'.map (fun w => (.frz, .str w)) ∧ en (some KD) (some (.lst .frz, strsD l)) c d = en (some KD) (some (.lst .frz, strsD (pre'.filter (isM dk line)))) c' d' := fun l c d hl2 => ⟨pre ++ [w], rest, c, d, by rw [List.append_assoc]; exact q1, e2, by rw [hl2]⟩
      by_cases hM : isM dk line w = true
      · rw [show (!(desksOf dk w).isEmpty && (desksOf dk w).all fun d => decide (kOf dk line d = w)) = true from hM] at hc
        refine ss_cons (ife_yes hc (ss_cons (st_exp (ev_mut (y := (.lst .frz, strsD (pre.filter (isM dk line)))) rfl rfl (evG_cons (ev_fz (s := .frz) rfl rfl rfl ⟨(.frz, .str w), rfl, evG_nil ⟨(.frz, .non), (.lst .frz, .lst ((pre.filter (isM dk line)).map D.str ++ [.str w])), _, ?_, rfl, ss_nil (ss_nil ?_)⟩⟩)))))) 
        · refine if_pos ?_
          have := List.length_filter_le (isM dk line) pre
          rw [List.length_map, decide_eq_true (by rw [sizeLine_eq]; omega)]
          rfl
        · have := fin (pre.filter (isM dk line) ++ [w]) (some (.frz, .str w)) (some (.lst .frz, strsD (desksOf dk w))) (by rw [List.filter_append, List.filter_cons_of_pos hM]; rfl)
          show ∃ (pre' rest' : List Str) (c' d' : Option SD), pre' ++ rest' = sortS ws ∧ xs = rest'.map (fun w => (.frz, .str w)) ∧ en (some KD) (some (.lst .frz, .lst ((pre.filter (isM dk line)).map D.str ++ [.str w]))) (some (.frz, .str w)) (some (.lst .frz, strsD (desksOf dk w))) = en (some KD) (some (.lst .frz, strsD (pre'.filter (isM dk line)))) c' d'
          have e : (pre.filter (isM dk line)).map D.str ++ [D.str w] = (pre.filter (isM dk line) ++ [w]).map D.str := by rw [List.map_append]; rfl
          rw [e]
          exact this
      · rw [show (!(desksOf dk w).isEmpty && (desksOf dk w).all fun d => decide (kOf dk line d = w)) = false from Bool.eq_false_iff.mpr hM] at hc
        exact ss_cons (ife_no hc (ss_nil (fin _ _ _ (by rw [List.filter_append, List.filter_cons_of_neg hM]; simp))))
  · rintro _ ⟨pre, rest, c, d, q1, q2, rfl⟩
    cases rest with
    | nil =>
      rw [List.append_nil] at q1
      exact ⟨c, d, by rw [q1]; rfl⟩
    | cons _ _ => cases q2
end DI.PL
/-! PL21: the order of a crew in a line; places in lists; sorted parts. -/
namespace DI.PL
open PySem DI
variable {P : Prog} {n : Nat}
/-- those of the line that are in the crew -/
def ordL (cs line : List Str) : List Str := line.filter fun w => decide (w ∈ cs)
theorem ordL_sort {cs line : List Str} : ordL (sortS cs) line = ordL cs line := by
  unfold ordL
  refine List.filter_congr fun w _ => ?_
  rw [Bool.eq_iff_iff, decide_eq_true_eq, decide_eq_true_eq]
  exact mem_sortS
theorem lc_ord {sg : Sig} {cl : Calls} {env : Env} {o : Nat} {ex ec : E} {s t : Sh} {cs line : List Str} (hx : Ev sg cl env ex (s, strsD line)) (hs : itemsOf ex.place (s, strsD line) = some (line.map fun w => (.frz, .str w))) (ho : o < env.length) (hl : ∀ w ∈ line, okS w) (hc : ∀ c ∈ cs, okS c) (hll : line.length ≤ 1000)
    (hec : ∀ w, Ev sg cl (env.set o (some (.frz, .str w))) ec (t, strsD cs)) : Ev sg cl env (.lc [o] (.nm o) (.e ex) (.cons (.app .isIn (.cons (.pl (.var o)) (.cons ec .nil))) .nil) (.fz o) .frz) (.lst .frz, strsD (ordL cs line)) := by
  have := lc_nm (sg := sg) (cl := cl) (env := env) (o := o) (it := .e ex) (ifs := .cons (.app .isIn (.cons (.pl (.var o)) (.cons ec .nil))) .nil) (elt := .fz o) (s := .frz) (xs := line.map fun w => (.frz, .str w))
    (fun x => match x.2 with | .str w => decide (w ∈ cs) | _ => false) (fun x => x.2) (its_ev hx hs) (by rw [List.length_map]; exact hll) ?_
  · have e : ((line.map fun w => ((.frz, .str w) : SD)).filter fun x => match x.2 with | .str w => decide (w ∈ cs) | _ => false).map (fun x => x.2) = (ordL cs line).map .str := by
      rw [List.filter_map, List.map_map]
      rfl
    rw [e] at this
    exact this
  · intro x hx
    obtain ⟨w, hw, rfl⟩ := List.mem_map.mp hx
    have hg : (env.set o (some (.frz, .str w)))[o]? = some (some ((.frz, .str w) : SD)) := List.getElem?_set_self ho
    have hin : Ev sg cl (env.set o (some (.frz, .str w))) (.app .isIn (.cons (.pl (.var o)) (.cons ec .nil))) (.frz, .bl (decide (w ∈ cs))) := by
      refine Ev.app2 (x := (.frz, .str w)) (Ev.pl (p := .var o) (by
        show (match (env.set o (some ((.frz, .str w) : SD)))[o]? with | some (some x) => some x | _ => none : Option SD) = _
        rw [hg])) (hec w) ?_
      rw [sem_in, in_strs hc (hl w hw)]
      rfl
    refine Ok.bind (hin.ok (Ok.opt (a := decide (w ∈ cs)) rfl ⟨rfl, List.set_set .., fun _ => ev_fz hg rfl rfl ⟨_, rfl, rfl, ?_⟩⟩))
    rw [List.set_set, List.set_set]
/-- sorted, a part of it: the part of it sorted -/
theorem sortS_uniq2 {a b : List Str} (hp : a.Perm b) (ha : a.Pairwise leS) (hb : b.Pairwise leS) : a = b := hp.eq_of_pairwise (le := leS) (fun _ _ _ _ h1 h2 => leS_anti h1 h2) ha hb
theorem sortS_filter (f : Str → Bool) (l : List Str) : sortS (l.filter f) = (sortS l).filter f :=
  sortS_uniq2 ((perm_sortS _).trans ((perm_sortS l).filter f).symm) (pw_sortS _) ((pw_sortS l).filter _)
theorem find_strs {w : Str} : ∀ {zs : List Str}, w ∈ zs → findD (.str w) (zs.map .str) = some (zs.idxOf w)
  | z :: zs, h => by
    show (if (z == w) = true then some 0 else (findD (.str w) (zs.map .str)).map (· + 1)) = _
    by_cases e : z = w
    · subst e
      rw [if_pos (show (z == z) = true by simp), List.idxOf_cons_self]
    · rw [if_neg (show ¬ (z == w) = true by simpa using e), find_strs (by
        rcases List.mem_cons.mp h with h | h
        · exact absurd h.symm e
        · exact h), List.idxOf_cons, show (z == w) = false by simpa using e]
      rfl
theorem index_strs {s t : Sh} {zs : List Str} {w : Str} (hz : ∀ z ∈ zs, okS z) (hw : w ∈ zs) : sem2 .index (s, strsD zs) (t, .str w) = some (.frz, .int (zs.idxOf w : Nat)) := by
  show (match toPy (.str w), toPys (zs.map .str) with
    | some p, some ps => if (SeqAt.shaped p && SeqAt.shaped (.list ps)) = true then (findD p ps).bind fun j => sc (.int j) else none
    | _, _ => none) = _
  rw [toPys_strs]
  show (if (SeqAt.shaped (.str w) && SeqAt.shaped (.list (zs.map .str))) = true then (findD (.str w) (zs.map .str)).bind fun j => sc (.int j) else none) = _
  rw [if_pos (by rw [shaped_strs hz, show SeqAt.shaped (.str w) = true from hz w hw]; rfl), find_strs hw]
  rfl
end DI.PL
/-! PL22: side by side, choices, what is alike. -/
namespace DI.PL
open PySem DI
section
variable {sg : Sig} {cl : Calls} {env : Env}
theorem parO {ts : Tgs} {es : Es} {N : Env → Prop} {R : SD → Env → Prop} (h : Ok (evG sg cl keepK es) env fun xs e => Ok (parT ts xs) e fun _ e2 => N e2) : Ok (st sg cl (.par ts es)) env (Fin1 N R) := Ok.bind (h.mono fun xs e q => Ok.bind (q.mono fun _ e2 q2 => Ok.pure q2))
theorem Ev.iteT {c a b : E} {x : SD} {s : Sh} (hc : Ev sg cl env c (s, .bl true)) (ha : Ev sg cl env a x) (hx : (if a.place = true then share x else some x) = some x) : Ev sg cl env (.ite c a b) x := by
  obtain ⟨r', e, h1, rfl, rfl⟩ : Ok (ev sg cl (.ite c a b)) env fun r' e => r' = x ∧ e = env := Ok.bind (hc.ok (Ok.bind (Ok.opt (a := true) rfl (Ok.bind (ha.ok (Ok.opt hx ⟨rfl, rfl⟩))))))
  exact h1
theorem Ev.iteF {c a b : E} {x : SD} {s : Sh} (hc : Ev sg cl env c (s, .bl false)) (hb : Ev sg cl env b x) (hx : (if b.place = true then share x else some x) = some x) : Ev sg cl env (.ite c a b) x := by
  obtain ⟨r', e, h1, rfl, rfl⟩ : Ok (ev sg cl (.ite c a b)) env fun r' e => r' = x ∧ e = env := Ok.bind (hc.ok (Ok.bind (Ok.opt (a := false) rfl (Ok.bind (hb.ok (Ok.opt hx ⟨rfl, rfl⟩))))))
  exact h1
end
variable {P : Prog} {n : Nat}
/-- the like of it, whosever it is -/
theorem alikeG (S : Std2 P) {d : D} (s t : Sh) (h : nice d = true) (hb : bulkD d ≤ 16000) (hk : depD d ≤ 64) : callD P (n + 1) 9 [(s, d), (t, d)] = some (.ok (.frz, .bl true) [none, none]) := by
  suffices hh : ∃ r outs, callD P (n + 1) 9 [(s, d), (t, d)] = some (.ok r outs) ∧ r = (.frz, .bl true) ∧ outs = [none, none] by
    obtain ⟨r, outs, hc, rfl, rfl⟩ := hh
    exact hc
  refine call_ok S.d9 ?_
  rw [S.m9]
  show Ok (sts P.sg (callD P n) alike_c) [some (s, d), some (t, d)] _
  obtain ⟨z, hz, hok⟩ := repr_nice s h hb hk
  obtain ⟨z', hz', hok'⟩ := repr_nice t h hb hk
  have ez : z' = z := by
    have h1 : sem1 .repr (s, d) = sem1 .repr (t, d) := rfl
    rw [hz, hz'] at h1
    injection h1 with h1
    injection h1 with _ h1
    injection h1 with h1
    exact h1.symm
  rw [ez] at hz'
  refine ss_cons (st_ret ((Ev.and (k := true) (k' := true) (s := .frz) (t := .frz) (Ev.app2 (x := (s, d)) (y := (t, d)) (Ev.pl (p := .var 0) rfl) (Ev.pl (p := .var 1) rfl) ?_) (Ev.app2 (x := (.frz, .str z)) (y := (.frz, .str z)) (Ev.app1 (Ev.pl (p := .var 0) rfl) hz) (Ev.app1 (Ev.pl (p := .var 1) rfl) hz') ?_) rfl).ok ⟨_, rfl, rfl, rfl⟩))
  · rw [sem_eq, eqv_nice h hk]
    rfl
  · rw [eq_str hok hok, decide_eq_true rfl]
theorem nm_strs : ∀ zs : List Str, (∀ z ∈ zs, Nm z) → nices (zs.map .str) = true ∧ depDs (zs.map .str) = 0 ∧ bulkDs (zs.map .str) ≤ 10 * zs.length
  | [], _ => ⟨rfl, rfl, Nat.le_refl _⟩
  | z :: zs, hz => by
    obtain ⟨i1, i2, i3⟩ := nm_strs zs fun y hy => hz y (.tail _ hy)
    obtain ⟨n1, b1⟩ := nm_nice (hz z (.head _))
    refine ⟨?_, ?_, ?_⟩
    · show (nice (.str z) && nices (zs.map .str)) = true
      rw [n1, i1]
      rfl
    · show max 0 (depDs (zs.map .str)) = 0
      rw [i2]
      rfl
    · show z.cps.size + 1 + bulkDs (zs.map .str) ≤ 10 * (zs.length + 1)
      omega
theorem nums_nice : ((List.range 256).all fun (i : Nat) => nice (.int (i : Int))) = true := by decide +kernel
theorem nice_num {i : Nat} (h : i < 256) : nice (.int (i : Int)) = true := List.all_eq_true.mp nums_nice i (List.mem_range.mpr h)
theorem sl_strs {s t : Sh} {zs : List Str} (k : Nat) : sem2 (.sl false true) (s, strsD zs) (t, .int (k : Int)) = some (.lst .frz, strsD (zs.take k)) := by
  show (kids (s, strsD zs)).bind (fun ds => lit (cut ds none (some (k : Int)))) = _
  rw [kids_strs]
  show lit (cut (zs.map D.str) none (some (k : Int))) = _
  rw [cut_hi, ← List.map_take]
  rfl
theorem its_strs {s : Sh} {b : Bool} {zs : List Str} (h : s = .lst .frz ∨ s = .frz) : itemsOf b (s, strsD zs) = some (zs.map fun z => (.frz, .str z)) := by
  have e : itemsOf b (s, strsD zs) = some ((zs.map D.str).map fun d => (.frz, d)) := by
    rcases h with rfl | rfl <;> cases b <;> rfl
  rw [e, List.map_map]
  rfl
end DI.PL
/-! PL23: a call served by hand; masters, the list one's own. -/
namespace DI.PL
open PySem DI
variable {P : Prog} {n : Nat}
theorem dict_dsks {dk : List (Str × List Str)} (hn : (dk.map (·.1)).Nodup) : sem1 .dict (.frz, .lst (dk.map dskD)) = some (.dic .frz, dcD (dk.map fun p => (p.1, strsD p.2))) := by
  have := dict_ok (l := dk.map fun p => (p.1, strsD p.2)) (by rw [List.map_map]; exact hn)
  rw [List.map_map] at this
  exact this
theorem dsks_get {dk : List (Str × List Str)} (hn : (dk.map (·.1)).Nodup) {p : Str × List Str} (hp : p ∈ dk) {s : Sh} (hs : s = .frz ∨ s = .dic .frz) : itemOf (s, dcD (dk.map fun p => (p.1, strsD p.2))) (.str p.1) = some (.frz, strsD p.2) := by
  have : ((assoc (Sum.inr p.1 : Key) ((dk.map fun p => (p.1, strsD p.2)).map fun p => (.inr p.1, p.2))).map fun d => ((.frz, d) : SD)) = some (.frz, strsD p.2) := by
    rw [dc_get (l := dk.map fun p => (p.1, strsD p.2)) (p := (p.1, strsD p.2)) (by rw [List.map_map]; exact hn) (List.mem_map.mpr ⟨p, hp, rfl⟩)]
    rfl
  rcases hs with rfl | rfl <;> exact this
/-- the crew of a desk, read off the parts -/
theorem ev_crewOf {sg : Sig} {cl : Calls} {env : Env} {i j : Nat} {ws : List Str} {dk : List (Str × List Str)} {p : Str × List Str} (hi : env[i]? = some (some (.frz, partsD ws dk))) (hj : env[j]? = some (some (.frz, .str p.1))) (hn : (dk.map (·.1)).Nodup) (hp : p ∈ dk) :
    Ev sg cl env (.app .ix (.cons (.app .dict (.cons (.pl (.ix (.var i) (.cst (.int (1))))) .nil)) (.cons (.pl (.var j)) .nil))) (.frz, strsD p.2) := by
  have g1 : (Pl.ix (.var i) (.cst (.int (1)))).get sg.gd env = some (.frz, .lst (dk.map dskD)) := by
    show (match env[i]? with | some (some x) => some x | _ => none : Option SD).bind (fun x => itemOf x (.int 1)) = _
    rw [hi]
    rfl
  have g2 : (Pl.var j).get sg.gd env = some (.frz, .str p.1) := by
    show (match env[j]? with | some (some x) => some x | _ => none : Option SD) = _
    rw [hj]
  refine Ev.app2 (x := (.dic .frz, dcD (dk.map fun p => (p.1, strsD p.2)))) (y := (.frz, .str p.1)) (Ev.app1 (Ev.pl g1) (dict_dsks hn)) (Ev.pl g2) ?_
  show (itemOf (.dic .frz, dcD (dk.map fun p => (p.1, strsD p.2))) (.str p.1)).bind share = _
  rw [dsks_get hn hp (.inr rfl)]
  rfl
/-- the others, in order -/
theorem lc_others {sg : Sig} {cl : Calls} {env : Env} {o j : Nat} {ex : E} {s : Sh} {w : Str} {line : List Str} (hx : Ev sg cl env ex (s, strsD line)) (hs : itemsOf ex.place (s, strsD line) = some (line.map fun w => (.frz, .str w))) (ho : o < env.length) (hoj : o ≠ j) (hj : env[j]? = some (some (.frz, .str w))) (hl : ∀ x ∈ line, okS x) (hw : okS w) (hll : line.length ≤ 1000) :
    Ev sg cl env (.lc [o] (.nm o) (.e ex) (.cons (.app .ne (.cons (.pl (.var o)) (.cons (.pl (.var j)) .nil))) .nil) (.fz o) .frz) (.lst .frz, strsD (line.filter fun x => !decide (x = w))) := by
  have := lc_nm (sg := sg) (cl := cl) (env := env) (o := o) (it := .e ex) (ifs := .cons (.app .ne (.cons (.pl (.var o)) (.cons (.pl (.var j)) .nil))) .nil) (elt := .fz o) (s := .frz) (xs := line.map fun w => (.frz, .str w))
    (fun x => match x.2 with | .str z => !decide (z = w) | _ => false) (fun x => x.2) (its_ev hx hs) (by rw [List.length_map]; exact hll) ?_
  · have e : ((line.map fun z => ((.frz, .str z) : SD)).filter fun x => match x.2 with | .str z => !decide (z = w) | _ => false).map (fun x => x.2) = (line.filter fun x => !decide (x = w)).map .str := by
      rw [List.filter_map, List.map_map]
      rfl
    rw [e] at this
    exact this
  · intro x hx
    obtain ⟨z, hz, rfl⟩ := List.mem_map.mp hx
    have hg : (env.set o (some (.frz, .str z)))[o]? = some (some ((.frz, .str z) : SD)) := List.getElem?_set_self ho
    have hc : Ev sg cl (env.set o (some (.frz, .str z))) (.app .ne (.cons (.pl (.var o)) (.cons (.pl (.var j)) .nil))) (.frz, .bl (!decide (z = w))) := by
      refine Ev.app2 (x := (.frz, .str z)) (y := (.frz, .str w)) (Ev.pl (p := .var o) (by
        show (match (env.set o (some ((.frz, .str z) : SD)))[o]? with | some (some x) => some x | _ => none : Option SD) = _
        rw [hg])) (Ev.pl (p := .var j) (by
        show (match (env.set o (some ((.frz, .str z) : SD)))[j]? with | some (some x) => some x | _ => none : Option SD) = _
        rw [List.getElem?_set_ne hoj, hj])) ?_
      rw [sem_ne, eqv_str (hl z hz) hw]
      rfl
    refine Ok.bind (hc.ok (Ok.opt (a := !decide (z = w)) rfl ⟨rfl, List.set_set .., fun _ => ev_fz hg rfl rfl ⟨_, rfl, rfl, ?_⟩⟩))
    rw [List.set_set, List.set_set]
def served_c (F : Nat) : Ss := (.cons (.asg (.nm 3) (.call F (.cons (.app .ix (.cons (.app .dict (.cons (.pl (.ix (.var 0) (.cst (.int (1))))) .nil)) (.cons (.pl (.var 2)) .nil))) (.cons (.pl (.var 1)) .nil)))) (.cons (.ret (.tup (.cons (.fz 3) (.cons (.app .add (.cons (.lst .frz (.cons (.fz 3) .nil)) (.cons (.lc [4] (.nm 4) (.e (.pl (.var 1))) (.cons (.app .ne (.cons (.pl (.var 4)) (.cons (.pl (.var 3)) .nil))) .nil) (.fz 4) .frz) .nil))) .nil)))) .nil))
theorem served_ok {f F : Nat} (hd : P.defs f = some (5, served_c F)) (hm : P.sg.modes f = [.frz, .bor, .bor]) (hdF : P.defs F = some (3, firstOf_c)) (hmF : P.sg.modes F = [.bor, .bor])
    {ws line : List Str} {dk : List (Str × List Str)} (h : PartsOk ws dk) (hl : line.Perm ws) {p : Str × List Str} (hp : p ∈ dk) :
    callD P (n + 2) f [(.frz, partsD ws dk), (.bor, strsD line), (.frz, .str p.1)] = some (.ok (.tup [.frz, .lst .frz], .tup [.str (kOf dk line p.1), strsD (front line (kOf dk line p.1))]) [none, none, none]) := by
  suffices hh : ∃ r outs, callD P (n + 2) f [(.frz, partsD ws dk), (.bor, strsD line), (.frz, .str p.1)] = some (.ok r outs) ∧ r = (.tup [.frz, .lst .frz], .tup [.str (kOf dk line p.1), strsD (front line (kOf dk line p.1))]) ∧ outs = [none, none, none] by
    obtain ⟨r, outs, hc, rfl, rfl⟩ := hh
    exact hc
  have hw := h.w40
  have hll : line.length ≤ 40 := by rw [hl.length_eq]; exact hw
  have hln : ∀ w ∈ line, okS w := fun w hw => okS_nm (h.wn w (hl.mem_iff.mp hw))
  have hcr := h.cr p hp
  have hkl := (kOf_mem h hl hp).2
  have hkk : firstIn p.2 line = kOf dk line p.1 := by
    unfold kOf
    rw [crewOf_at h.dd hp]
  have hfo := firstOf_ok (n := n) hdF hmF hln (by omega) hcr.ne (fun c hc => hl.mem_iff.mpr (hcr.sub c hc))
  rw [hkk] at hfo
  refine call_ok hd ?_
  rw [hm]
  show Ok (sts P.sg (callD P (n + 1)) (served_c F)) [some (.frz, partsD ws dk), some (.bor, strsD line), some (.frz, .str p.1), none, none] _
  refine seq (fun e => e = [some (.frz, partsD ws dk), some (.bor, strsD line), some (.frz, .str p.1), some (.frz, .str (kOf dk line p.1)), none]) (st_set (ev_call hmF (evC_val rfl ((ev_crewOf (i := 0) (j := 2) rfl rfl h.dd hp).ok ⟨.val (.bor, strsD p.2), rfl, evC_val rfl (ev_pl (x := (.bor, strsD line)) rfl ⟨.val (.bor, strsD line), rfl, evC_nil ⟨_, _, _, _, rfl, hfo, rfl, rfl, _, rfl, rfl⟩⟩)⟩)))) ?_
  intro e he
  rw [he]
  have hlc := lc_others (sg := P.sg) (cl := callD P (n + 1)) (env := [some (.frz, partsD ws dk), some (.bor, strsD line), some (.frz, .str p.1), some (.frz, .str (kOf dk line p.1)), none]) (o := 4) (j := 3) (ex := .pl (.var 1)) (s := .bor) (line := line) (Ev.pl rfl) (by
    show some ((line.map D.str).map _) = _
    rw [List.map_map]
    rfl) (by show 4 < 5; decide) (by decide) rfl hln (hln _ hkl) (by omega)
  refine ss_cons (st_ret (ev_tup (evG_cons (ev_fz (s := .frz) (d := .str (kOf dk line p.1)) rfl rfl rfl ⟨_, rfl, evG_cons (ev_app2 (ev_lst (evG_cons (ev_fz (s := .frz) (d := .str (kOf dk line p.1)) rfl rfl rfl ⟨_, rfl, evG_nil (hlc.ok ⟨(.lst .frz, strsD (front line (kOf dk line p.1))), ?_, _, rfl, evG_nil ⟨_, rfl, rfl, rfl⟩⟩)⟩))))⟩))))
  have hle := List.length_filter_le (fun x => !decide (x = kOf dk line p.1)) line
  exact addL (as := [.str (kOf dk line p.1)]) (by rw [List.length_map]; show 1 + _ ≤ 1000; omega)
theorem ev_mvO {sg : Sig} {cl : Calls} {env : Env} {i : Nat} {s : Sh} {d : D} {Q : SD → Env → Prop} (h : env[i]? = some (some (s, d))) (hb : s.isB = false) (q : Q (s, d) (env.set i none)) : Ok (ev sg cl (.mv i)) env Q := by
  refine Ok.bind (Ok.of (a := (s, d)) (e := env) ?_ ?_)
  · unfold getV
    rw [h]
  · show Ok (if s.isB = true then _ else M.bind (setV i none) fun _ => M.pure (s, d)) env Q
    rw [hb]
    show Ok (M.bind (setV i none) fun _ => M.pure (s, d)) env Q
    exact ⟨(s, d), env.set i none, rfl, q⟩
def mastersMv_c (F : Nat) : Ss := (.cons (.asg (.nm 2) (.app .dict (.cons (.call F (.cons (.pl (.var 0)) (.cons (.pl (.var 1)) .nil))) .nil))) (.cons (.asg (.nm 3) (.lst .frz .nil)) (.cons (.for (.nm 4) (.e (.mcall 0 14 (.pl (.var 0)) .nil)) (.cons (.asg (.nm 5) (.mcall 0 17 (.pl (.var 0)) (.cons (.pl (.var 4)) .nil))) (.cons (.ife (.and (.app .ne (.cons (.pl (.var 5)) (.cons (.lst .frz .nil) .nil))) (.app .all (.cons (.lc [6] (.nm 6) (.e (.pl (.var 5))) .nil (.app .eq (.cons (.pl (.ix (.var 2) (.var 6))) (.cons (.pl (.var 4)) .nil))) .frz) .nil))) (.cons (.exp (.mut .append (.var 3) (.cons (.fz 4) .nil))) .nil) .nil) .nil))) (.cons (.ret (.mv 3)) .nil))))
theorem mastersMv_ok (S : Std5 P) {f K F : Nat} (hd : P.defs f = some (7, mastersMv_c K)) (hm : P.sg.modes f = [.bor, .bor]) (hdK : P.defs K = some (3, keepers_c F)) (hmK : P.sg.modes K = [.bor, .bor]) (hdF : P.defs F = some (3, firstOf_c)) (hmF : P.sg.modes F = [.bor, .bor])
    {ws line : List Str} {dk : List (Str × List Str)} (h : PartsOk ws dk) (hl : line.Perm ws) : callD P (n + 3) f [(.bor, rosD ws dk), (.bor, strsD line)] = some (.ok (.lst .frz, strsD (mastersL ws dk line)) [none, none]) := by
  suffices hh : ∃ r outs, callD P (n + 3) f [(.bor, rosD ws dk), (.bor, strsD line)] = some (.ok r outs) ∧ r = (.lst .frz, strsD (mastersL ws dk line)) ∧ outs = [none, none] by
    obtain ⟨r, outs, hc, rfl, rfl⟩ := hh
    exact hc
  have hw40 := h.w40
  have hd60 := h.d60
  have hzn : (sortS (dk.map (·.1))).Nodup := (perm_sortS _).nodup_iff.mpr h.dd
  have hkeep := keepers_ok (n := n) S.toStd3 hdK hmK hdF hmF h hl
  refine call_ok hd ?_
  rw [hm]
  show Ok (sts P.sg (callD P (n + 2)) (mastersMv_c K)) [some (.bor, rosD ws dk), some (.bor, strsD line), none, none, none, none, none] _
  let KD : SD := (.dic .frz, dcD ((sortS (dk.map (·.1))).map fun m => (m, .str (kOf dk line m))))
  let en : Option SD → Option SD → Option SD → Option SD → Env := fun a b c d => [some (.bor, rosD ws dk), some (.bor, strsD line), a, b, c, d, none]
  refine seq (fun e => e = en (some KD) none none none) (st_set ((Ev.app1 (Ev.call2 hmK (Ev.pl (p := .var 0) (x := (.bor, rosD ws dk)) rfl) rfl (Ev.pl (p := .var 1) (x := (.bor, strsD line)) rfl) rfl hkeep rfl) (dict_gPL hzn (.inr rfl))).ok ⟨_, rfl, rfl⟩)) ?_
  rintro _ rfl
  refine seq (fun e => e = en (some KD) (some (.lst .frz, strsD [])) none none) (st_set (Ev.nilL.ok ⟨_, rfl, rfl⟩)) ?_
  rintro _ rfl
  refine seq (fun e => ∃ c d, e = en (some KD) (some (.lst .frz, strsD (mastersL ws dk line))) c d) ?_ ?_
  rotate_left
  · rintro _ ⟨c, d, rfl⟩
    exact ss_cons (st_ret (ev_mvO (s := .lst .frz) rfl rfl ⟨_, rfl, rfl, rfl⟩))
  have hwk : Ev P.sg (callD P (n + 2)) (en (some KD) (some (.lst .frz, strsD [])) none none) (.mcall 0 14 (.pl (.var 0)) .nil) (.lst .frz, strsD (sortS ws)) := by
    obtain ⟨r', e, h1, rfl, rfl⟩ : Ok (ev P.sg (callD P (n + 2)) (.mcall 0 14 (.pl (.var 0)) .nil)) (en (some KD) (some (.lst .frz, strsD [])) none none) fun r' e => r' = (.lst .frz, strsD (sortS ws)) ∧ e = (en (some KD) (some (.lst .frz, strsD [])) none none) :=
      ev_mcall (ca := .val (.bor, rosD ws dk)) S.m14 (Ev.pl (p := .var 0) rfl) (ros_gd S.toStd2) rfl (evC_nil ⟨_, _, _, _, rfl, workersM_ok S, rfl, rfl, rfl, rfl⟩)
    exact h1
  refine st_for (fun rem e => ∃ (pre rest : List Str) (c d : Option SD), pre ++ rest = sortS ws ∧ rem = rest.map (fun w => (.frz, .str w)) ∧ e = en (some KD) (some (.lst .frz, strsD (pre.filter (isM dk line)))) c d) (Ok.of (its_ev hwk (xs := (sortS ws).map fun w => (.frz, .str w)) ?_) ⟨[], sortS ws, none, none, rfl, rfl, rfl⟩) ?_ ?_
  · show some (((sortS ws).map D.str).map _) = _
    rw [List.map_map]
    rfl
  · rintro x xs _ ⟨pre, rest, c, d, q1, q2, rfl⟩
    cases rest with
    | nil => cases q2
    | cons w rest =>
      injection q2 with e1 e2
      subst e1
      have hwm : w ∈ ws := mem_sortS.mp (by rw [← q1]; exact List.mem_append_right _ (.head _))
      have hplen : pre.length ≤ 40 := by
        have := congrArg List.length q1
        rw [(perm_sortS ws).length_eq, List.length_append] at this
        omega
      refine Ok.of (a := ()) (e := en (some KD) (some (.lst .frz, strsD (pre.filter (isM dk line)))) (some (.frz, .str w)) d) rfl ?_
      have hdo : ∀ z ∈ desksOf dk w, ∃ p ∈ dk, p.1 = z := fun z hz => by
        obtain ⟨p, hp, e⟩ := List.mem_map.mp (mem_sortS.mp (List.mem_filter.mp hz).1)
        exact ⟨p, hp, e⟩
      have hdl : (desksOf dk w).length ≤ 60 := by
        have := List.length_filter_le (fun z => decide (w ∈ crewOf dk z)) (sortS (dk.map (·.1)))
        rw [(perm_sortS _).length_eq, List.length_map] at this
        exact Nat.le_trans this hd60
      refine seq (fun e => e = en (some KD) (some (.lst .frz, strsD (pre.filter (isM dk line)))) (some (.frz, .str w)) (some (.lst .frz, strsD (desksOf dk w)))) (st_set (ev_mcall (ca := .val (.bor, rosD ws dk)) S.m17 (Ev.pl (p := .var 0) rfl) (ros_gd S.toStd2) rfl (evC_val rfl (ev_pl (x := (.frz, .str w)) rfl ⟨.val (.frz, .str w), rfl, evC_nil ⟨_, _, _, _, rfl, desksOf_ok S.toStd4 h hwm, rfl, rfl, _, rfl, rfl⟩⟩)))) ?_
      rintro _ rfl
      have hall : Ev P.sg (callD P (n + 2)) (en (some KD) (some (.lst .frz, strsD (pre.filter (isM dk line)))) (some (.frz, .str w)) (some (.lst .frz, strsD (desksOf dk w)))) (.app .all (.cons (.lc [6] (.nm 6) (.e (.pl (.var 5))) .nil (.app .eq (.cons (.pl (.ix (.var 2) (.var 6))) (.cons (.pl (.var 4)) .nil))) .frz) .nil)) (.frz, .bl ((desksOf dk w).all fun d => decide (kOf dk line d = w))) := by
        have := Ev.allB (sg := P.sg) (cl := callD P (n + 2)) (env := en (some KD) (some (.lst .frz, strsD (pre.filter (isM dk line)))) (some (.frz, .str w)) (some (.lst .frz, strsD (desksOf dk w)))) (o := 6) (it := .e (.pl (.var 5))) (elt := .app .eq (.cons (.pl (.ix (.var 2) (.var 6))) (.cons (.pl (.var 4)) .nil))) (xs := (desksOf dk w).map fun z => (.frz, .str z)) (b := fun x => match x.2 with | .str z => decide (kOf dk line z = w) | _ => false)
          (its_ev (Ev.pl (p := .var 5) (x := (.lst .frz, strsD (desksOf dk w))) rfl) (by
            show some (((desksOf dk w).map D.str).map _) = _
            rw [List.map_map]
            rfl)) (by rw [List.length_map]; omega) ?_
        · rw [List.all_map] at this
          exact this
        · intro x hx
          obtain ⟨z, hz, rfl⟩ := List.mem_map.mp hx
          obtain ⟨p, hp, rfl⟩ := hdo z hz
          have hzm : p.1 ∈ sortS (dk.map (·.1)) := mem_sortS.mpr (List.mem_map.mpr ⟨p, hp, rfl⟩)
          refine Ev.app2 (x := (.frz, .str (kOf dk line p.1))) (y := (.frz, .str w)) (Ev.pl (p := .ix (.var 2) (.var 6)) (dcg_get hzn hzm (.inr rfl))) (Ev.pl (p := .var 4) rfl) ?_
          exact eq_str (okS_nm (h.wn _ (hl.mem_iff.mp (kOf_mem h hl hp).2))) (okS_nm (h.wn w hwm))
      have hne : Ev P.sg (callD P (n + 2)) (en (some KD) (some (.lst .frz, strsD (pre.filter (isM dk line)))) (some (.frz, .str w)) (some (.lst .frz, strsD (desksOf dk w)))) (.app .ne (.cons (.pl (.var 5)) (.cons (.lst .frz .nil) .nil))) (.frz, .bl (!(desksOf dk w).isEmpty)) := by
        refine Ev.app2 (x := (.lst .frz, strsD (desksOf dk w))) (y := (.lst .frz, .lst [])) (Ev.pl (p := .var 5) rfl) Ev.nilL ?_
        rw [sem_ne, eqv_strsE fun z hz => by
          obtain ⟨p, hp, rfl⟩ := hdo z hz
          exact okS_nm (h.dn p hp)]
        rfl
      have hc := Ev.and hne hall rfl
      have fin : ∀ l c d, l = (pre ++ [w]).filter (isM dk line) → ∃ (pre' rest' : List Str) (c' d' : Option SD), pre' ++ rest' = sortS ws ∧ xs = rest'.map (fun w => (.frz, .str w)) ∧ en (some KD) (some (.lst .frz, strsD l)) c d = en (some KD) (some (.lst .frz, strsD (pre'.filter (isM dk line)))) c' d' := fun l c d hl2 => ⟨pre ++ [w], rest, c, d, by rw [List.append_assoc]; exact q1, e2, by rw [hl2]⟩
      by_cases hM : isM dk line w = true
      · rw [show (!(desksOf dk w).isEmpty && (desksOf dk w).all fun d => decide (kOf dk line d = w)) = true from hM] at hc
        refine ss_cons (ife_yes hc (ss_cons (st_exp (ev_mut (y := (.lst .frz, strsD (pre.filter (isM dk line)))) rfl rfl (evG_cons (ev_fz (s := .frz) rfl rfl rfl ⟨(.frz, .str w), rfl, evG_nil ⟨(.frz, .non), (.lst .frz, .lst ((pre.filter (isM dk line)).map D.str ++ [.str w])), _, ?_, rfl, ss_nil (ss_nil ?_)⟩⟩)))))) 
        · refine if_pos ?_
          have := List.length_filter_le (isM dk line) pre
          rw [List.length_map, decide_eq_true (by rw [sizeLine_eq]; omega)]
          rfl
        · have := fin (pre.filter (isM dk line) ++ [w]) (some (.frz, .str w)) (some (.lst .frz, strsD (desksOf dk w))) (by rw [List.filter_append, List.filter_cons_of_pos hM]; rfl)
          show ∃ (pre' rest' : List Str) (c' d' : Option SD), pre' ++ rest' = sortS ws ∧ xs = rest'.map (fun w => (.frz, .str w)) ∧ en (some KD) (some (.lst .frz, .lst ((pre.filter (isM dk line)).map D.str ++ [.str w]))) (some (.frz, .str w)) (some (.lst .frz, strsD (desksOf dk w))) = en (some KD) (some (.lst .frz, strsD (pre'.filter (isM dk line)))) c' d'
          have e : (pre.filter (isM dk line)).map D.str ++ [D.str w] = (pre.filter (isM dk line) ++ [w]).map D.str := by rw [List.map_append]; rfl
          rw [e]
          exact this
      · rw [show (!(desksOf dk w).isEmpty && (desksOf dk w).all fun d => decide (kOf dk line d = w)) = false from Bool.eq_false_iff.mpr hM] at hc
        exact ss_cons (ife_no hc (ss_nil (fin _ _ _ (by rw [List.filter_append, List.filter_cons_of_neg hM]; simp))))
  · rintro _ ⟨pre, rest, c, d, q1, q2, rfl⟩
    cases rest with
    | nil =>
      rw [List.append_nil] at q1
      exact ⟨c, d, by rw [q1]; rfl⟩
    | cons _ _ => cases q2
theorem fztO {sg : Sig} {cl : Calls} {env : Env} {a : E} {Q : SD → Env → Prop} (h : Ok (ev sg cl a) env fun x e => ∃ y, takeAs .frz a x = some y ∧ Q y e) : Ok (ev sg cl (.fzt a)) env Q := Ok.bind (h.mono fun x e ⟨y, h1, q⟩ => Ok.opt h1 q)
theorem Ev.orTO {sg : Sig} {cl : Calls} {env : Env} {a b : E} {s : Sh} (ha : Ev sg cl env a (s, .bl true)) : Ev sg cl env (.or a b) (.frz, .bl true) := by
  obtain ⟨r', e, h1, rfl, rfl⟩ : Ok (ev sg cl (.or a b)) env fun r' e => r' = (.frz, .bl true) ∧ e = env := ev_or (k := true) (ha.ok ⟨rfl, by rw [if_pos rfl]; exact ⟨rfl, rfl⟩⟩)
  exact h1
theorem Ev.orFO {sg : Sig} {cl : Calls} {env : Env} {a b : E} {s t : Sh} {k : Bool} (ha : Ev sg cl env a (s, .bl false)) (hb : Ev sg cl env b (t, .bl k)) (hp : b.place = false) : Ev sg cl env (.or a b) (t, .bl k) := Ev.or ha hb hp
theorem wipe_set2 {a b : Nat} {e : Env} {x y : Option SD} (hab : a ≠ b) : wipeE [a, b] ((e.set a x).set b y) = wipeE [a, b] e := by
  show ((((e.set a x).set b y).set a none).set b none) = (e.set a none).set b none
  rw [List.set_comm _ _ (Ne.symm hab), List.set_set, List.set_set]
theorem wipe_set1 {a b : Nat} {e : Env} {x : Option SD} : wipeE [a, b] (e.set a x) = wipeE [a, b] e := by
  show (((e.set a x).set a none).set b none) = (e.set a none).set b none
  rw [List.set_set]
/-- the names of the desks -/
theorem lc_names {sg : Sig} {cl : Calls} {env : Env} {i a b : Nat} {ws : List Str} {dk : List (Str × List Str)} (hi : env[i]? = some (some (.frz, partsD ws dk))) (hd : dk.length ≤ 60) (ha : a < env.length) (hb : b < env.length) (hab : a ≠ b) :
    Ev sg cl env (.lc [a, b] (.tup (.cons (.nm a) (.cons (.nm b) .nil))) (.e (.pl (.ix (.var i) (.cst (.int (1)))))) .nil (.fz a) .frz) (.lst .frz, strsD (dk.map (·.1))) := by
  have g1 : (Pl.ix (.var i) (.cst (.int (1)))).get sg.gd env = some (.frz, .lst (dk.map dskD)) := by
    show (match env[i]? with | some (some x) => some x | _ => none : Option SD).bind (fun x => itemOf x (.int 1)) = _
    rw [hi]
    rfl
  have hlc := lc_pure (sg := sg) (cl := cl) (env := env) (own := [a, b]) (tg := .tup (.cons (.nm a) (.cons (.nm b) .nil))) (it := .e (.pl (.ix (.var i) (.cst (.int (1)))))) (ifs := .nil) (elt := .fz a) (s := .frz) (xs := dk.map fun p => (.frz, dskD p))
    (fun _ => true) (fun x => match x.2 with | .tup (.str z :: _) => .str z | _ => .non) (its_ev (Ev.pl g1) ?_) (by rw [List.length_map, sizeLine_eq]; omega) ?_
  · rw [List.filter_eq_self.mpr (fun _ _ => rfl), List.map_map] at hlc
    have e : dk.map ((fun x : SD => match x.2 with | .tup (.str z :: _) => D.str z | _ => .non) ∘ fun p => (.frz, dskD p)) = (dk.map (·.1)).map .str := by
      rw [List.map_map]
      rfl
    rw [e] at hlc
    exact hlc
  · show some ((dk.map dskD).map _) = _
    rw [List.map_map]
    rfl
  · intro x hx e he
    obtain ⟨p, hp1, rfl⟩ := List.mem_map.mp hx
    rw [he]
    have hwl : (wipeE [a, b] env).length = env.length := fold_len (f := fun _ => none) [a, b] env
    have w1 : wipeE [a, b] (((wipeE [a, b] env).set a (some (.frz, .str p.1))).set b (some (.frz, strsD p.2))) = wipeE [a, b] env := (wipe_set2 hab).trans (wipe_set2 hab)
    refine Ok.of (a := ()) (e := ((wipeE [a, b] env).set a (some (.frz, .str p.1))).set b (some (.frz, strsD p.2))) rfl (Ok.pure ⟨rfl, w1, fun _ => ?_⟩)
    refine ev_fz (s := .frz) (d := .str p.1) ?_ rfl rfl ⟨_, rfl, rfl, ?_⟩
    · rw [List.getElem?_set_ne (Ne.symm hab), List.getElem?_set_self (by rw [hwl]; exact ha)]
    · exact wipe_set1.trans w1
end DI.PL
/-! K26: what law_k26 looks at. -/
namespace DI.PL
open PySem DI
variable {P : Prog} {n : Nat}
/-- a dict of marks -/
abbrev mkD (l : List Str) : List (Key × D) := l.map fun z => (.inr z, .bl true)
theorem mk_assoc {z : Str} : ∀ l : List Str, (assoc (Sum.inr z : Key) (mkD l)).isSome = decide (z ∈ l)
  | [] => rfl
  | y :: l => by
    show (if (Sum.inr y : Key) = Sum.inr z then some (D.bl true) else assoc (Sum.inr z) (mkD l)).isSome = _
    by_cases h : y = z
    · subst h
      rw [if_pos rfl, decide_eq_true (List.mem_cons_self)]
      rfl
    · rw [if_neg (fun e => h (by injection e)), mk_assoc l, decide_eq_decide, List.mem_cons]
      exact ⟨.inr, fun q => q.elim (fun e => (h e.symm).elim) id⟩
theorem mk_put {z : Str} : ∀ l : List Str, putA (Sum.inr z : Key) (D.bl true) (mkD l) = mkD (if z ∈ l then l else l ++ [z])
  | [] => rfl
  | y :: l => by
    show (if (Sum.inr y : Key) = Sum.inr z then (Sum.inr y, D.bl true) :: mkD l else (Sum.inr y, D.bl true) :: putA (Sum.inr z) (D.bl true) (mkD l)) = _
    by_cases h : y = z
    · subst h
      rw [if_pos rfl, if_pos (List.mem_cons_self)]
      rfl
    · rw [if_neg (fun e => h (by injection e)), mk_put l]
      by_cases h2 : z ∈ l
      · rw [if_pos h2, if_pos (List.mem_cons_of_mem _ h2)]
        rfl
      · rw [if_neg h2, if_neg fun q => (List.mem_cons.mp q).elim (fun e => h e.symm) h2]
        rfl
/-- marked once more -/
def mark (l : List Str) (z : Str) : List Str := if z ∈ l then l else l ++ [z]
theorem mark_mem {l : List Str} {z y : Str} : y ∈ mark l z ↔ y ∈ l ∨ y = z := by
  unfold mark
  by_cases h : z ∈ l
  · rw [if_pos h]
    exact ⟨.inl, fun q => q.elim id fun e => e ▸ h⟩
  · rw [if_neg h, List.mem_append, List.mem_singleton]
theorem mark_nd {l : List Str} {z : Str} (hn : l.Nodup) : (mark l z).Nodup := by
  unfold mark
  by_cases h : z ∈ l
  · rw [if_pos h]
    exact hn
  · rw [if_neg h]
    refine List.nodup_append.mpr ⟨hn, List.nodup_cons.mpr ⟨by simp, List.nodup_nil⟩, fun a ha b hb e => ?_⟩
    rw [List.mem_singleton.mp hb] at e
    exact h (e ▸ ha)
theorem nd_len {α : Type} [DecidableEq α] : ∀ {l m : List α}, l.Nodup → (∀ x ∈ l, x ∈ m) → l.length ≤ m.length
  | [], _, _, _ => Nat.zero_le _
  | x :: l, m, hn, hs => by
    have h1 := List.nodup_cons.mp hn
    have hx := hs x (.head _)
    have := nd_len (m := m.erase x) h1.2 fun y hy => (List.mem_erase_of_ne fun e => h1.1 (by rw [← e]; exact hy)).mpr (hs y (.tail _ hy))
    rw [List.length_erase_of_mem hx] at this
    have h2 : 0 < m.length := List.length_pos_of_mem hx
    show l.length + 1 ≤ m.length
    omega
theorem nodupsM {x : Str} : ∀ {l : List Str}, x ∈ nodups l ↔ x ∈ l
  | [] => Iff.rfl
  | y :: r => by
    show x ∈ (if y ∈ r then nodups r else y :: nodups r) ↔ _
    by_cases h : y ∈ r
    · rw [if_pos h, nodupsM, List.mem_cons]
      exact ⟨.inr, fun q => q.elim (fun e => e ▸ h) id⟩
    · rw [if_neg h, List.mem_cons, List.mem_cons, nodupsM]
theorem nodupsN : ∀ l : List Str, (nodups l).Nodup
  | [] => List.nodup_nil
  | x :: r => by
    show (if x ∈ r then nodups r else x :: nodups r).Nodup
    by_cases h : x ∈ r
    · rw [if_pos h]
      exact nodupsN r
    · rw [if_neg h]
      exact List.nodup_cons.mpr ⟨fun z => h (nodupsM.mp z), nodupsN r⟩
def due26_c (F : Nat) : Ss := (.cons (.asg (.tup (.cons (.nm 2) (.cons (.nm 3) .nil))) (.tup (.cons (.lc [5, 7] (.tup (.cons (.nm 7) (.cons (.nm 5) .nil))) (.e (.pl (.ix (.var 0) (.cst (.int (1)))))) .nil (.tup (.cons (.call F (.cons (.pl (.var 5)) (.cons (.pl (.var 1)) .nil))) (.cons (.fz 5) .nil))) .frz) (.cons (.newd false .frz) .nil)))) (.cons (.for (.tup (.cons (.nm 4) (.cons (.nm 5) .nil))) (.e (.pl (.var 2))) (.cons (.for (.nm 6) (.e (.pl (.var 5))) (.cons (.ife (.app .ne (.cons (.pl (.var 6)) (.cons (.pl (.var 4)) .nil))) (.cons (.seti (.var 3) (.pl (.var 6)) (.cst (.bl true))) .nil) .nil) .nil)) .nil)) (.cons (.ret (.app .sortset (.cons (.lc [4, 5] (.tup (.cons (.nm 4) (.cons (.nm 5) .nil))) (.e (.pl (.var 2))) (.cons (.app .notIn (.cons (.pl (.var 4)) (.cons (.pl (.var 3)) .nil))) .nil) (.fz 4) .frz) .nil))) .nil)))
/-- who is lost: others of a crew than its keeper -/
def lostBy (κ : Str → Str) (pre : List (Str × List Str)) (z : Str) : Prop := ∃ p ∈ pre, z ∈ p.2 ∧ z ≠ κ p.1
def dueL (κ : Str → Str) (dk : List (Str × List Str)) (ls : List Str) : List Str := (dk.filter fun p => !decide (κ p.1 ∈ ls)).map fun p => κ p.1
theorem due26_eq {ws line : List Str} {dk : List (Str × List Str)} (h : PartsOk ws dk) (hl : line.Perm ws) {ls : List Str} (hls : ∀ z, z ∈ ls ↔ lostBy (kOf dk line) dk z) : sortS (nodups (dueL (kOf dk line) dk ls).reverse) = mastersL ws dk line := by
  have hm : ∀ w, w ∈ dueL (kOf dk line) dk ls ↔ w ∈ mastersL ws dk line := by
    intro w
    have e1 : w ∈ dueL (kOf dk line) dk ls ↔ ∃ p ∈ dk, kOf dk line p.1 = w ∧ w ∉ ls := by
      unfold dueL
      rw [List.mem_map]
      constructor
      · rintro ⟨p, hp, rfl⟩
        have := List.mem_filter.mp hp
        exact ⟨p, this.1, rfl, by simpa using this.2⟩
      · rintro ⟨p, hp, rfl, hw⟩
        exact ⟨p, List.mem_filter.mpr ⟨hp, by simpa using hw⟩, rfl⟩
    rw [e1]
    unfold mastersL
    rw [List.mem_filter, mem_sortS]
    constructor
    · rintro ⟨p, hp, rfl, hw⟩
      have hk := kOf_mem h hl hp
      refine ⟨hl.mem_iff.mp hk.2, Bool.and_eq_true_iff.mpr ⟨?_, List.all_eq_true.mpr fun d hd => ?_⟩⟩
      · have : p.1 ∈ desksOf dk (kOf dk line p.1) := List.mem_filter.mpr ⟨mem_sortS.mpr (List.mem_map.mpr ⟨p, hp, rfl⟩), by rw [decide_eq_true_eq, crewOf_at h.dd hp]; exact hk.1⟩
        cases e : desksOf dk (kOf dk line p.1) with
        | nil => rw [e] at this; cases this
        | cons _ _ => rfl
      · have h1 := List.mem_filter.mp hd
        obtain ⟨q, hq, rfl⟩ := List.mem_map.mp (mem_sortS.mp h1.1)
        have h2 := of_decide_eq_true h1.2
        rw [crewOf_at h.dd hq] at h2
        rw [decide_eq_true_eq]
        by_cases e : kOf dk line p.1 = kOf dk line q.1
        · exact e.symm
        · exact (hw ((hls _).mpr ⟨q, hq, h2, e⟩)).elim
    · rintro ⟨h1, h2⟩
      obtain ⟨h3, h4⟩ := Bool.and_eq_true_iff.mp h2
      have h5 := List.all_eq_true.mp h4
      cases e : desksOf dk w with
      | nil => rw [e] at h3; cases h3
      | cons d ds =>
        have hd : d ∈ desksOf dk w := by rw [e]; exact .head _
        have hd2 := List.mem_filter.mp hd
        obtain ⟨p, hp, rfl⟩ := List.mem_map.mp (mem_sortS.mp hd2.1)
        refine ⟨p, hp, of_decide_eq_true (h5 _ hd), fun hw => ?_⟩
        obtain ⟨q, hq, q1, q2⟩ := (hls w).mp hw
        have : q.1 ∈ desksOf dk w := List.mem_filter.mpr ⟨mem_sortS.mpr (List.mem_map.mpr ⟨q, hq, rfl⟩), by rw [decide_eq_true_eq, crewOf_at h.dd hq]; exact q1⟩
        exact q2 (of_decide_eq_true (h5 _ this)).symm
  refine sortS_uniq2 ?_ (pw_sortS _) ((pw_sortS ws).filter _)
  have n1 : (nodups (dueL (kOf dk line) dk ls).reverse).Nodup := nodupsN _
  have n2 : (mastersL ws dk line).Nodup := ((perm_sortS ws).nodup_iff.mpr h.wd).filter _
  refine (perm_sortS _).trans ((List.perm_ext_iff_of_nodup n1 n2).mpr fun w => ?_)
  rw [nodupsM, List.mem_reverse]
  exact hm w
/-- the desks with their keepers -/
abbrev kpD (κ : Str → Str) (p : Str × List Str) : D := .tup [.str (κ p.1), strsD p.2]
theorem due26_ok {f F : Nat} (hd : P.defs f = some (8, due26_c F)) (hm : P.sg.modes f = [.frz, .bor]) (hdF : P.defs F = some (3, firstOf_c)) (hmF : P.sg.modes F = [.bor, .bor])
    {ws line : List Str} {dk : List (Str × List Str)} (h : PartsOk ws dk) (hl : line.Perm ws) :
    callD P (n + 2) f [(.frz, partsD ws dk), (.bor, strsD line)] = some (.ok (.lst .frz, strsD (mastersL ws dk line)) [none, none]) := by
  suffices hh : ∃ r outs, callD P (n + 2) f [(.frz, partsD ws dk), (.bor, strsD line)] = some (.ok r outs) ∧ r = (.lst .frz, strsD (mastersL ws dk line)) ∧ outs = [none, none] by
    obtain ⟨r, outs, hc, rfl, rfl⟩ := hh
    exact hc
  have hw := h.w40
  have hd60 := h.d60
  have hll : line.length ≤ 40 := by rw [hl.length_eq]; exact hw
  have hln : ∀ w ∈ line, okS w := fun w hw => okS_nm (h.wn w (hl.mem_iff.mp hw))
  have hkn : ∀ p ∈ dk, okS (kOf dk line p.1) := fun p hp => hln _ (kOf_mem h hl hp).2
  refine call_ok hd ?_
  rw [hm]
  let en : Option SD → Option SD → Option SD → Option SD → Option SD → Env := fun x2 x3 x4 x5 x6 => [some (.frz, partsD ws dk), some (.bor, strsD line), x2, x3, x4, x5, x6, none]
  show Ok (sts P.sg (callD P (n + 1)) (due26_c F)) (en none none none none none) _
  let KP : SD := (.lst .frz, .lst (dk.map (kpD (kOf dk line))))
  refine seq (fun e => e = en (some KP) (some (.dic .frz, .dic (mkD []))) none none none) ?_ ?_
  · have hlc := lc_pure (sg := P.sg) (cl := callD P (n + 1)) (env := en none none none none none) (own := [5, 7]) (tg := .tup (.cons (.nm 7) (.cons (.nm 5) .nil))) (it := .e (.pl (.ix (.var 0) (.cst (.int (1)))))) (ifs := .nil) (elt := .tup (.cons (.call F (.cons (.pl (.var 5)) (.cons (.pl (.var 1)) .nil))) (.cons (.fz 5) .nil))) (s := .frz) (xs := dk.map fun p => (.frz, dskD p))
      (fun _ => true) (fun x => match x.2 with | .tup (.str z :: d :: _) => .tup [.str (kOf dk line z), d] | _ => .non) (its_ev (Ev.pl (p := .ix (.var 0) (.cst (.int (1)))) (x := (.frz, .lst (dk.map dskD))) rfl) ?_) (by rw [List.length_map, sizeLine_eq]; omega) ?_
    · rw [List.filter_eq_self.mpr (fun _ _ => rfl), List.map_map] at hlc
      exact st_asg (ev_tup (evG_cons (hlc.ok ⟨(.lst .frz, .lst (dk.map (kpD (kOf dk line)))), rfl, evG_cons (Ok.of (a := (.dic .frz, .dic [])) (e := en none none none none none) rfl ⟨_, rfl, evG_nil ⟨_, rfl, Ok.of (a := ()) rfl rfl⟩⟩)⟩)))
    · show some ((dk.map dskD).map _) = _
      rw [List.map_map]
      rfl
    · intro x hx e he
      obtain ⟨p, hp, rfl⟩ := List.mem_map.mp hx
      have hcr := h.cr p hp
      have hkk : firstIn p.2 line = kOf dk line p.1 := by
        unfold kOf
        rw [crewOf_at h.dd hp]
      have hfo := firstOf_ok (n := n) hdF hmF hln (by omega) hcr.ne (fun c hc => hl.mem_iff.mpr (hcr.sub c hc))
      rw [hkk] at hfo
      rw [he]
      refine Ok.of (a := ()) (e := [some (.frz, partsD ws dk), some (.bor, strsD line), none, none, none, some (.frz, strsD p.2), none, some (.frz, .str p.1)]) rfl (Ok.pure ⟨rfl, rfl, fun _ => ?_⟩)
      exact ev_tup (evG_cons (ev_call hmF (evC_val rfl (ev_pl (x := (.frz, strsD p.2)) rfl ⟨.val (.bor, strsD p.2), rfl, evC_val rfl (ev_pl (x := (.bor, strsD line)) rfl ⟨.val (.bor, strsD line), rfl, evC_nil ⟨_, _, _, _, rfl, hfo, rfl, rfl, (.frz, .str (kOf dk line p.1)), rfl, evG_cons (ev_fz (s := .frz) (d := strsD p.2) rfl rfl rfl ⟨_, rfl, evG_nil ⟨_, rfl, rfl, rfl⟩⟩)⟩⟩)⟩))))
  intro e he
  rw [he]
  refine seq (fun e => ∃ (ls : List Str) (x4 x5 x6 : Option SD), (∀ z, z ∈ ls ↔ lostBy (kOf dk line) dk z) ∧ e = en (some KP) (some (.dic .frz, .dic (mkD ls))) x4 x5 x6) ?_ ?_
  · refine st_for (fun rem e => ∃ (pre rest : List (Str × List Str)) (ls : List Str) (x4 x5 x6 : Option SD), pre ++ rest = dk ∧ rem = rest.map (fun p => (.frz, kpD (kOf dk line) p)) ∧ ls.Nodup ∧ (∀ z, z ∈ ls ↔ lostBy (kOf dk line) pre z) ∧ e = en (some KP) (some (.dic .frz, .dic (mkD ls))) x4 x5 x6) (Ok.of (its_ev (Ev.pl (p := .var 2) (x := KP) rfl) ?_) ⟨[], dk, [], none, none, none, rfl, rfl, List.nodup_nil, fun z => ?_, rfl⟩) ?_ ?_
    · show some ((dk.map (kpD (kOf dk line))).map _) = _
      rw [List.map_map]
      rfl
    · exact ⟨fun q => (by cases q), fun ⟨p, hp, _⟩ => by cases hp⟩
    · rintro x xs _ ⟨pre, rest, ls, x4, x5, x6, q1, q2, q3, q4, rfl⟩
      cases rest with
      | nil => cases q2
      | cons p rest =>
        injection q2 with e1 e2
        subst e1
        have hp : p ∈ dk := by rw [← q1]; exact List.mem_append_right _ (.head _)
        have hcr := h.cr p hp
        refine Ok.of (a := ()) (e := en (some KP) (some (.dic .frz, .dic (mkD ls))) (some (.frz, .str (kOf dk line p.1))) (some (.frz, strsD p.2)) x6) rfl ?_
        refine ss_cons (st_for (fun rem e => ∃ (a b : List Str) (ls' : List Str) (x6 : Option SD), a ++ b = p.2 ∧ rem = b.map (fun z => (.frz, .str z)) ∧ ls'.Nodup ∧ (∀ z, z ∈ ls' ↔ lostBy (kOf dk line) pre z ∨ (z ∈ a ∧ z ≠ kOf dk line p.1)) ∧ e = en (some KP) (some (.dic .frz, .dic (mkD ls'))) (some (.frz, .str (kOf dk line p.1))) (some (.frz, strsD p.2)) x6) (Ok.of (its_ev (Ev.pl (p := .var 5) (x := (.frz, strsD p.2)) rfl) (its_strs (.inr rfl))) ⟨[], p.2, ls, x6, rfl, rfl, q3, fun z => ?_, rfl⟩) ?_ ?_)
        · rw [q4]
          exact ⟨.inl, fun q => q.elim id fun q => by cases q.1⟩
        · rintro y ys _ ⟨a, b, ls', y6, r1, r2, r3, r4, rfl⟩
          cases b with
          | nil => cases r2
          | cons c b =>
            injection r2 with f1 f2
            subst f1
            have hc : c ∈ p.2 := by rw [← r1]; exact List.mem_append_right _ (.head _)
            have hcw := hcr.sub c hc
            refine Ok.of (a := ()) (e := en (some KP) (some (.dic .frz, .dic (mkD ls'))) (some (.frz, .str (kOf dk line p.1))) (some (.frz, strsD p.2)) (some (.frz, .str c))) rfl ?_
            have hne : Ev P.sg (callD P (n + 1)) (en (some KP) (some (.dic .frz, .dic (mkD ls'))) (some (.frz, .str (kOf dk line p.1))) (some (.frz, strsD p.2)) (some (.frz, .str c))) (.app .ne (.cons (.pl (.var 6)) (.cons (.pl (.var 4)) .nil))) (.frz, .bl (!decide (c = kOf dk line p.1))) := by
              refine Ev.app2 (x := (.frz, .str c)) (y := (.frz, .str (kOf dk line p.1))) (Ev.pl (p := .var 6) rfl) (Ev.pl (p := .var 4) rfl) ?_
              rw [sem_ne, eqv_str (okS_nm (h.wn c hcw)) (hkn p hp)]
              rfl
            by_cases hk : c = kOf dk line p.1
            · rw [decide_eq_true hk] at hne
              refine ss_cons (ife_no hne (ss_nil ⟨a ++ [c], b, ls', _, by rw [List.append_assoc]; exact r1, f2, r3, fun z => ?_, rfl⟩))
              rw [r4, List.mem_append, List.mem_singleton]
              constructor
              · rintro (q | q)
                · exact .inl q
                · exact .inr ⟨.inl q.1, q.2⟩
              · rintro (q | ⟨q | q, q5⟩)
                · exact .inl q
                · exact .inr ⟨q, q5⟩
                · exact (q5 (q.trans hk)).elim
            · rw [decide_eq_false hk] at hne
              have hsub : ∀ z ∈ ls', z ∈ ws := fun z hz => by
                rcases (r4 z).mp hz with ⟨q, hq, q1', _⟩ | ⟨q, _⟩
                · exact (h.cr q (by rw [← q1]; exact List.mem_append_left _ hq)).sub z q1'
                · exact hcr.sub z (by rw [← r1]; exact List.mem_append_left _ q)
              have hlen := nd_len r3 hsub
              refine ss_cons (ife_yes hne (ss_cons (st_seti (ev_cst ⟨(.dic .frz, .dic (mkD ls')), (.frz, .bl true), rfl, rfl, (Ev.pl (p := .var 6) (x := (.frz, .str c)) rfl).ok ⟨(.dic .frz, .dic (mkD (mark ls' c))), _, rfl, ?_, rfl, ss_nil (ss_nil ⟨a ++ [c], b, mark ls' c, _, by rw [List.append_assoc]; exact r1, f2, mark_nd r3, fun z => ?_, rfl⟩)⟩⟩))))
              · show (if (mkD ls').length < sizeLine then some ((.dic .frz, .dic (putA (Sum.inr c) (D.bl true) (mkD ls'))) : SD) else none) = _
                rw [if_pos (by rw [List.length_map, sizeLine_eq]; omega), mk_put]
                rfl
              · rw [mark_mem, r4, List.mem_append, List.mem_singleton]
                constructor
                · rintro ((q | q) | q)
                  · exact .inl q
                  · exact .inr ⟨.inl q.1, q.2⟩
                  · exact .inr ⟨.inr q, q ▸ hk⟩
                · rintro (q | ⟨q | q, q5⟩)
                  · exact .inl (.inl q)
                  · exact .inl (.inr ⟨q, q5⟩)
                  · exact .inr q
        · rintro _ ⟨a, b, ls', y6, r1, r2, r3, r4, rfl⟩
          cases b with
          | cons _ _ => cases r2
          | nil =>
            rw [List.append_nil] at r1
            refine ss_nil ⟨pre ++ [p], rest, ls', _, _, _, by rw [List.append_assoc]; exact q1, e2, r3, fun z => ?_, rfl⟩
            rw [r4, r1]
            constructor
            · rintro (⟨q, hq, q5⟩ | q)
              · exact ⟨q, List.mem_append_left _ hq, q5⟩
              · exact ⟨p, List.mem_append_right _ (.head _), q⟩
            · rintro ⟨q, hq, q5⟩
              rcases List.mem_append.mp hq with hq | hq
              · exact .inl ⟨q, hq, q5⟩
              · rw [List.mem_singleton.mp hq] at q5
                exact .inr q5
    · rintro _ ⟨pre, rest, ls, x4, x5, x6, q1, q2, q3, q4, rfl⟩
      cases rest with
      | cons _ _ => cases q2
      | nil =>
        rw [List.append_nil] at q1
        exact ⟨ls, x4, x5, x6, by rw [q1] at q4; exact q4, rfl⟩
  rintro _ ⟨ls, x4, x5, x6, hls, rfl⟩
  have hlc := lc_pure (sg := P.sg) (cl := callD P (n + 1)) (env := en (some KP) (some (.dic .frz, .dic (mkD ls))) x4 x5 x6) (own := [4, 5]) (tg := .tup (.cons (.nm 4) (.cons (.nm 5) .nil))) (it := .e (.pl (.var 2))) (ifs := .cons (.app .notIn (.cons (.pl (.var 4)) (.cons (.pl (.var 3)) .nil))) .nil) (elt := .fz 4) (s := .frz) (xs := dk.map fun p => (.frz, kpD (kOf dk line) p))
    (fun x => match x.2 with | .tup (.str z :: _) => !decide (z ∈ ls) | _ => false) (fun x => match x.2 with | .tup (d :: _) => d | _ => .non) (its_ev (Ev.pl (p := .var 2) (x := KP) rfl) ?_) (by rw [List.length_map, sizeLine_eq]; omega) ?_
  · have e : (((dk.map fun p => ((.frz, kpD (kOf dk line) p) : SD)).filter fun x => match x.2 with | .tup (.str z :: _) => !decide (z ∈ ls) | _ => false).map fun x => match x.2 with | .tup (d :: _) => d | _ => .non) = (dueL (kOf dk line) dk ls).map .str := by
      unfold dueL
      rw [List.filter_map, List.map_map, List.map_map]
      rfl
    rw [e] at hlc
    refine ss_cons (st_ret ((Ev.app1 (r := (.lst .frz, strsD (mastersL ws dk line))) hlc ?_).ok ⟨_, rfl, rfl, rfl⟩))
    show (strsOf ((dueL (kOf dk line) dk ls).map .str)).bind (fun zs => if zs.length ≤ 4000 then lit ((sortS (nodups zs.reverse)).map .str) else none) = _
    rw [strs_map]
    have : (dueL (kOf dk line) dk ls).length ≤ 60 := by
      unfold dueL
      rw [List.length_map]
      exact Nat.le_trans (List.length_filter_le ..) hd60
    show (if (dueL (kOf dk line) dk ls).length ≤ 4000 then lit ((sortS (nodups (dueL (kOf dk line) dk ls).reverse)).map .str) else none) = _
    rw [if_pos (by omega), due26_eq h hl hls]
    rfl
  · show some ((dk.map (kpD (kOf dk line))).map _) = _
    rw [List.map_map]
    rfl
  · intro x hx e he
    obtain ⟨p, hp, rfl⟩ := List.mem_map.mp hx
    rw [he]
    refine Ok.of (a := ()) (e := en (some KP) (some (.dic .frz, .dic (mkD ls))) (some (.frz, .str (kOf dk line p.1))) (some (.frz, strsD p.2)) x6) rfl ?_
    have hin : Ev P.sg (callD P (n + 1)) (en (some KP) (some (.dic .frz, .dic (mkD ls))) (some (.frz, .str (kOf dk line p.1))) (some (.frz, strsD p.2)) x6) (.app .notIn (.cons (.pl (.var 4)) (.cons (.pl (.var 3)) .nil))) (.frz, .bl (!decide (kOf dk line p.1 ∈ ls))) := by
      refine Ev.app2 (x := (.frz, .str (kOf dk line p.1))) (y := (.dic .frz, .dic (mkD ls))) (Ev.pl (p := .var 4) rfl) (Ev.pl (p := .var 3) rfl) ?_
      rw [sem_notIn]
      show (some (assoc (Sum.inr (kOf dk line p.1) : Key) (mkD ls)).isSome).bind _ = _
      rw [mk_assoc]
      rfl
    exact Ok.bind (hin.ok (Ok.opt (a := !decide (kOf dk line p.1 ∈ ls)) rfl ⟨rfl, rfl, fun _ => ev_fz rfl rfl rfl ⟨_, rfl, rfl, rfl⟩⟩))
end DI.PL
/-! K26L: what law_k26 returns. -/
namespace DI.PL
open PySem DI
variable {P : Prog}
def k26in : Ss := (.cons (.asg (.nm 10) (.call 18 (.cons (.pl (.var 6)) (.cons (.pl (.var 8)) .nil)))) (.cons (.ife (.or (.not (.call 9 (.cons (.pl (.var 10)) (.cons (.call 19 (.cons (.fz 3) (.cons (.pl (.var 7)) .nil))) .nil)))) (.app .ne (.cons (.pl (.var 8)) (.cons (.pl (.var 7)) .nil)))) (.cons (.ret (.cst (.bl false))) .nil) .nil) (.cons (.exp (.mut .append (.var 10) (.cons (.cst (.str "zz")) .nil))) (.cons (.exp (.mut .reverse (.var 10) .nil)) .nil))))
def k26k : Ss := (.cons (.asg (.nm 8) (.app .list (.cons (.pl (.var 7)) .nil))) (.cons (.for (.nm 9) (.rng (.cons (.cst (.int (2))) .nil)) k26in) (.cons (.ife (.app .ne (.cons (.pl (.var 4)) (.cons (.lst .frz .nil) .nil))) (.cons (.asg (.nm 7) (.app .ix (.cons (.fzt (.call 20 (.cons (.fz 3) (.cons (.pl (.var 7)) (.cons (.app .ix (.cons (.pl (.var 4)) (.cons (.call 1 (.cons (.pl (.var 1)) (.cons (.app .len (.cons (.pl (.var 4)) .nil)) .nil))) .nil))) .nil))))) (.cons (.cst (.int (1))) .nil)))) .nil) .nil) .nil)))
def k26out : Ss := (.cons (.asg (.nm 3) (.call 7 (.cons (.pl (.var 1)) .nil))) (.cons (.par (.cons (.nm 6) (.cons (.nm 7) .nil)) (.cons (.call 8 (.cons (.pl (.var 3)) .nil)) (.cons (.call 4 (.cons (.pl (.var 1)) (.cons (.pl (.ix (.var 3) (.cst (.int (0))))) .nil))) .nil))) (.cons (.asg (.nm 4) (.lc [11, 12] (.tup (.cons (.nm 11) (.cons (.nm 12) .nil))) (.e (.pl (.ix (.var 3) (.cst (.int (1)))))) .nil (.fz 11) .frz)) (.cons (.for (.nm 5) (.rng (.cons (.app .add (.cons (.cst (.int (1))) (.cons (.call 1 (.cons (.pl (.var 1)) (.cons (.cst (.int (6))) .nil))) .nil))) .nil)) k26k) .nil))))
def k26_c : Ss := (.cons (.asg (.nm 1) (.call 2 (.cons (.pl (.var 0)) .nil))) (.cons (.for (.nm 2) (.rng (.cons (.cst (.int (2))) .nil)) k26out) (.cons (.ret (.cst (.bl true))) .nil)))
structure K26L (P : Prog) : Prop extends Std5 P where
  d0 : P.defs 0 = some (13, k26_c)
  d18 : P.defs 18 = some (7, mastersMv_c 21)
  m18 : P.sg.modes 18 = [.bor, .bor]
  d19 : P.defs 19 = some (8, due26_c 22)
  m19 : P.sg.modes 19 = [.frz, .bor]
  d20 : P.defs 20 = some (5, served_c 22)
  m20 : P.sg.modes 20 = [.frz, .bor, .bor]
  d21 : P.defs 21 = some (3, keepers_c 23)
  m21 : P.sg.modes 21 = [.bor, .bor]
  d22 : P.defs 22 = some (3, firstOf_c)
  m22 : P.sg.modes 22 = [.bor, .bor]
  d23 : P.defs 23 = some (3, firstOf_c)
  m23 : P.sg.modes 23 = [.bor, .bor]
theorem k26_val (S : K26L P) (ns : List Int) (hl : ns.length ≤ 63) : ∃ s outs, callD P 12 0 [(.frz, .scr ns)] = some (.ok (s, .bl true) outs) := by
  suffices hh : ∃ r outs, callD P 12 0 [(.frz, .scr ns)] = some (.ok r outs) ∧ ∃ s : Sh, r = (s, .bl true) by
    obtain ⟨r, outs, hc, s, rfl⟩ := hh
    exact ⟨s, outs, hc⟩
  refine call_ok S.d0 ?_
  show Ok (sts P.sg (callD P 11) k26_c) [some (.frz, .scr ns), none, none, none, none, none, none, none, none, none, none, none, none] _
  obtain ⟨g0, hg0, hb⟩ := bag_ok (n := 10) (s0 := .bor) S.toStd ns hl
  let en : Bag → Option SD → Option SD → Option SD → Option SD → Option SD → Option SD → Option SD → Option SD → Option SD → Env := fun g x2 x3 x4 x5 x6 x7 x8 x9 x10 => [some (.frz, .scr ns), some (bg g), x2, x3, x4, x5, x6, x7, x8, x9, x10, none, none]
  refine seq (fun e => e = en g0 none none none none none none none none none) (st_set ((Ev.call1 S.m2 (Ev.pl (p := .var 0) rfl) rfl hb rfl).ok ⟨_, rfl, rfl⟩)) ?_
  rintro _ rfl
  refine seq (fun e => ∃ g x2 x3 x4 x5 x6 x7 x8 x9 y, e = en g x2 x3 x4 x5 x6 x7 x8 x9 y) ?_ ?_
  rotate_left
  · rintro _ ⟨g, x2, x3, x4, x5, x6, x7, x8, x9, y, rfl⟩
    exact ss_cons (st_ret (ev_cst ⟨_, rfl, _, rfl⟩))
  refine st_for (fun _ e => ∃ g x2 x3 x4 x5 x6 x7 x8 x9 y, g.ok ∧ e = en g x2 x3 x4 x5 x6 x7 x8 x9 y) (Ok.of (its_rng (k := 2) (s := .frz) Ev.cst (by decide)) ⟨g0, _, _, _, _, _, _, _, _, _, hg0, rfl⟩) ?_ (fun e ⟨g, x2, x3, x4, x5, x6, x7, x8, x9, y, _, h⟩ => ⟨g, x2, x3, x4, x5, x6, x7, x8, x9, y, h⟩)
  rintro x xs _ ⟨g, x2, x3, x4, x5, x6, x7, x8, x9, y, hg, rfl⟩
  refine Ok.of (a := ()) (e := en g (some x) x3 x4 x5 x6 x7 x8 x9 y) rfl ?_
  generalize some x = X2
  obtain ⟨g1, ws, dk, hg1, hp, hs⟩ := sized_ok (n := 6) S.toStd hg
  have hw40 := hp.w40
  have hd60 := hp.d60
  refine seq (fun e => e = en g1 X2 (some (.frz, partsD ws dk)) x4 x5 x6 x7 x8 x9 y) (st_set (ev_call S.m7 (evC_io rfl (evC_nil ⟨_, _, _, _, rfl, hs, rfl, rfl, _, rfl, rfl⟩)))) ?_
  rintro _ rfl
  refine seq (fun e => ∃ (g3 : Bag) (line : List Str), g3.ok ∧ line.Perm ws ∧ e = en g3 X2 (some (.frz, partsD ws dk)) x4 x5 (some (rosS ws dk)) (some (.frz, strsD line)) x8 x9 y) ?_ ?_
  · refine parO (evG_cons ((Ev.call1 S.m8 (Ev.pl (p := .var 3) (x := (.frz, partsD ws dk)) rfl) rfl (roster_ok (n := 6) S.toStd2 hp) rfl).ok ⟨_, rfl, evG_cons (ev_mixed (n := 9) (g0 := g1) S.toStd rfl (ev_pl (x := (.frz, strsD ws)) rfl ⟨g1, ws.map .str, rfl, hg1, by rw [List.length_map]; omega, rfl, fun g3 es p1 p2 => ⟨_, rfl, evG_nil (Ok.of (a := ()) rfl ?_)⟩⟩))⟩))
    obtain ⟨line, rfl, pe⟩ := perm_strs p2
    exact ⟨g3, line, p1, pe, rfl⟩
  rintro _ ⟨g3, line, hg3, hpl, rfl⟩
  let NM : SD := (.lst .frz, strsD (dk.map (·.1)))
  refine seq (fun e => e = en g3 X2 (some (.frz, partsD ws dk)) (some NM) x5 (some (rosS ws dk)) (some (.frz, strsD line)) x8 x9 y) (st_set ((lc_names (i := 3) (a := 11) (b := 12) (ws := ws) (dk := dk) rfl hd60 (by show 11 < 13; decide) (by show 12 < 13; decide) (by decide)).ok ⟨_, rfl, rfl⟩)) ?_
  rintro _ rfl
  refine ss_cons (st_for (fun _ e => ∃ (g : Bag) (line : List Str) (s : Sh) (x5 x8 x9 y : Option SD), g.ok ∧ line.Perm ws ∧ (s = .frz ∨ s = .lst .frz) ∧ e = en g X2 (some (.frz, partsD ws dk)) (some NM) x5 (some (rosS ws dk)) (some (s, strsD line)) x8 x9 y) ?_ ?_ ?_)
  · refine its_rngO (ev_app2 (ev_cst (ev_take S.toStd rfl hg3 Ev.cst (by decide) (by decide) fun v g4 v0 v1 k4 => ?_)))
    exact ⟨(.frz, .int (1 + v)), rfl, .frz, (1 + v).toNat, by rw [Int.toNat_of_nonneg (by omega)], by omega, g4, line, .frz, x5, x8, x9, y, k4, hpl, .inl rfl, rfl⟩
  rotate_left
  · rintro e ⟨g, line, s, x5, x8, x9, y, k, _, _, rfl⟩
    exact ss_nil ⟨g, _, _, _, _, _, _, _, _, _, k, rfl⟩
  clear hg3 hpl x5 x8 x9 y
  rintro xk xsk _ ⟨g3, line, sL, x5, x8, x9, y, hg3, hpl, hsL, rfl⟩
  refine Ok.of (a := ()) (e := en g3 X2 (some (.frz, partsD ws dk)) (some NM) (some xk) (some (rosS ws dk)) (some (sL, strsD line)) x8 x9 y) rfl ?_
  generalize some xk = X5
  have hok : ∀ w ∈ line, okS w := fun w hw => okS_nm (hp.wn w (hpl.mem_iff.mp hw))
  refine seq (fun e => e = en g3 X2 (some (.frz, partsD ws dk)) (some NM) X5 (some (rosS ws dk)) (some (sL, strsD line)) (some (.lst .frz, strsD line)) x9 y) (st_set ((Ev.app1 (Ev.pl (p := .var 7) (x := (sL, strsD line)) rfl) list_strs).ok ⟨_, rfl, rfl⟩)) ?_
  rintro _ rfl
  let E8 : Option SD → Option SD → Env := fun x9 y => en g3 X2 (some (.frz, partsD ws dk)) (some NM) X5 (some (rosS ws dk)) (some (sL, strsD line)) (some (.lst .frz, strsD line)) x9 y
  refine seq (fun e => ∃ x9 y, e = E8 x9 y) ?_ ?_
  · refine st_for (fun _ e => ∃ x9 y, e = E8 x9 y) (Ok.of (its_rng (k := 2) (s := .frz) Ev.cst (by decide)) ⟨_, _, rfl⟩) ?_ (fun e h => h)
    rintro xa xsa _ ⟨x9, y, rfl⟩
    refine Ok.of (a := ()) (e := E8 (some xa) y) rfl ?_
    generalize some xa = XA
    have hma := mastersMv_ok (n := 8) S.toStd5 S.d18 S.m18 S.d21 S.m21 S.d23 S.m23 hp hpl
    have hdu := due26_ok (n := 9) S.d19 S.m19 S.d22 S.m22 hp hpl
    have hml : (mastersL ws dk line).length ≤ 40 := by
      unfold mastersL
      refine Nat.le_trans (List.length_filter_le ..) ?_
      rw [(perm_sortS ws).length_eq]
      exact hw40
    obtain ⟨i1, i2, i3⟩ := nm_strs (mastersL ws dk line) fun z hz => hp.wn z (mem_sortS.mp (List.mem_filter.mp hz).1)
    have n3 : depD (strsD (mastersL ws dk line)) ≤ 64 := by
      show depDs ((mastersL ws dk line).map .str) + 1 ≤ 64
      rw [i2]
      decide
    refine seq (fun e => e = E8 XA (some (.lst .frz, strsD (mastersL ws dk line)))) (st_set ((Ev.call2 S.m18 (Ev.pl (p := .var 6) (x := rosS ws dk) rfl) rfl (Ev.pl (p := .var 8) (x := (.lst .frz, strsD line)) rfl) rfl hma rfl).ok ⟨_, rfl, rfl⟩)) ?_
    rintro _ rfl
    let EM : Env := E8 XA (some (.lst .frz, strsD (mastersL ws dk line)))
    have hdue : Ev P.sg (callD P 11) EM (.call 19 (.cons (.fz 3) (.cons (.pl (.var 7)) .nil))) (.lst .frz, strsD (mastersL ws dk line)) := by
      obtain ⟨r', e', h1, rfl, rfl⟩ : Ok (ev P.sg (callD P 11) (.call 19 (.cons (.fz 3) (.cons (.pl (.var 7)) .nil)))) EM fun r' e' => r' = (.lst .frz, strsD (mastersL ws dk line)) ∧ e' = EM := by
        refine ev_call S.m19 (evC_val rfl (ev_fz (s := .frz) (d := partsD ws dk) rfl rfl rfl ⟨.val (.frz, partsD ws dk), rfl, evC_val rfl (ev_pl (x := (sL, strsD line)) rfl ⟨.val (.bor, strsD line), ?_, evC_nil ⟨_, _, _, _, rfl, hdu, rfl, rfl, rfl, rfl⟩⟩)⟩))
        rcases hsL with rfl | rfl <;> rfl
      exact h1
    have hal := Ev.call2 (sg := P.sg) (cl := callD P 11) (env := EM) S.m9 (Ev.pl (p := .var 10) (x := (.lst .frz, strsD (mastersL ws dk line))) rfl) rfl hdue rfl (alikeG (n := 10) S.toStd2 .bor .bor i1 (Nat.le_trans i3 (by omega)) n3) rfl
    refine seq (fun e => e = EM) (ife_no (Ev.orFO (t := .frz) (k := false) (Ev.not hal) (Ev.app2 (x := (.lst .frz, strsD line)) (y := (sL, strsD line)) (Ev.pl (p := .var 8) rfl) (Ev.pl (p := .var 7) rfl) ?_) rfl) rfl) ?_
    · rw [sem_ne, eqv_strs hok]
      rfl
    rintro _ rfl
    refine seq (fun e => ∃ k10, e = E8 XA (some (.lst .frz, .lst k10))) (st_exp (ev_mut (y := (.lst .frz, strsD (mastersL ws dk line))) rfl rfl (evG_cons (ev_cst ⟨(.frz, .str "zz"), rfl, evG_nil ⟨(.frz, .non), (.lst .frz, .lst ((mastersL ws dk line).map D.str ++ [.str "zz"])), _, ?_, rfl, _, rfl⟩⟩)))) ?_
    · refine if_pos ?_
      rw [List.length_map, decide_eq_true (by rw [sizeLine_eq]; omega)]
      rfl
    rintro _ ⟨k10, rfl⟩
    exact ss_cons (st_exp (ev_mut (y := (.lst .frz, .lst k10)) rfl rfl (evG_nil ⟨_, _, _, rfl, rfl, ss_nil ⟨_, _, rfl⟩⟩)))
  rintro _ ⟨x9, y, rfl⟩
  have hne : Ev P.sg (callD P 11) (E8 x9 y) (.app .ne (.cons (.pl (.var 4)) (.cons (.lst .frz .nil) .nil))) (.frz, .bl (!(dk.map (·.1)).isEmpty)) := by
    refine Ev.app2 (x := NM) (y := (.lst .frz, .lst [])) (Ev.pl (p := .var 4) rfl) Ev.nilL ?_
    rw [sem_ne, eqv_strsE fun z hz => by
      obtain ⟨p, hp1, rfl⟩ := List.mem_map.mp hz
      exact okS_nm (hp.dn p hp1)]
    rfl
  rcases Nat.eq_zero_or_pos dk.length with h0 | hpos
  · rw [show (!(dk.map (·.1)).isEmpty) = false by rw [List.length_eq_zero_iff.mp h0]; rfl] at hne
    exact ss_cons (ife_no hne (ss_nil ⟨g3, line, sL, X5, some (.lst .frz, strsD line), x9, y, hg3, hpl, hsL, rfl⟩))
  · rw [show (!(dk.map (·.1)).isEmpty) = true by
      rw [Bool.not_eq_true', List.isEmpty_eq_false_iff]
      intro e
      have := congrArg List.length e
      rw [List.length_map] at this
      rw [this] at hpos
      exact absurd hpos (by decide)] at hne
    refine ss_cons (ife_yes hne (ss_cons (st_set (ev_app2 (fztO (ev_call S.m20 (evC_val rfl (ev_fz (s := .frz) (d := partsD ws dk) rfl rfl rfl ⟨.val (.frz, partsD ws dk), rfl, evC_val rfl (ev_pl (x := (sL, strsD line)) rfl ⟨.val (.bor, strsD line), ?_, evC_val rfl (ev_app2 (ev_pl (x := NM) rfl (ev_take (many := (dk.length : Int)) (s := .frz) S.toStd rfl hg3 (Ev.app1 (Ev.pl (p := .var 4) (x := NM) rfl) ?_) (by omega) (by omega) fun v g4 v0 v1 k4 => ?_)))⟩)⟩))))))))
    · rcases hsL with rfl | rfl <;> rfl
    · show sc (.int ((((dk.map (·.1)).map D.str).length : Nat) : Int)) = _
      rw [List.length_map, List.length_map]
      rfl
    · obtain ⟨j, rfl⟩ : ∃ j : Nat, v = j := ⟨v.toNat, by omega⟩
      obtain ⟨p, hpj⟩ : ∃ p, dk[j]? = some p := ⟨_, List.getElem?_eq_getElem (by omega)⟩
      have hpd := List.mem_of_getElem? hpj
      have hsv := served_ok (n := 9) S.d20 S.m20 S.d22 S.m22 hp hpl hpd
      refine ⟨(.frz, .str p.1), ?_, .val (.frz, .str p.1), rfl, evC_nil ⟨_, _, _, _, rfl, hsv, rfl, rfl, (.frz, .tup [.str (kOf dk line p.1), strsD (front line (kOf dk line p.1))]), rfl, ev_cst ⟨(.frz, strsD (front line (kOf dk line p.1))), rfl, _, rfl, ss_nil (ss_nil ⟨g4, front line (kOf dk line p.1), .frz, _, _, _, _, k4, (front_perm (hpl.nodup_iff.mpr hp.wd) (kOf_mem hp hpl hpd).2).trans hpl, .inl rfl, rfl⟩)⟩⟩⟩
      show (itemOf (.lst .frz, strsD (dk.map (·.1))) (.int (j : Int))).bind share = _
      rw [list_at (k := j) (d := .str p.1) (.inr rfl) (by rw [List.getElem?_map, List.getElem?_map, hpj]; rfl)]
      rfl
end DI.PL
set_option  maxHeartbeats  0
namespace Lw
open PySem DI
/-- the defs: 0 law, 1 _law_take, 2 _law_bag, 3 _law_names, 4 _law_mixed, 5 _law_crew, 6 _law_parts, 7 _law_sized, 8 _law_roster, 9 _law_alike, 10 is_name, 11 are_names, 12 is_desk, 13 Roster.__init__, 14 Roster.workers, 15 Roster.desks, 16 Roster.crew, 17 Roster.desks_of, 18 masters, 19 _law_due, 20 _law_served, 21 keepers, 22 _law_keeper, 23 first_of -/
def c0 : Ss := (.cons (.asg (.nm 1) (.call 2 (.cons (.pl (.var 0)) .nil))) (.cons (.for (.nm 2) (.rng (.cons (.cst (.int (2))) .nil)) (.cons (.asg (.nm 3) (.call 7 (.cons (.pl (.var 1)) .nil))) (.cons (.par (.cons (.nm 6) (.cons (.nm 7) .nil)) (.cons (.call 8 (.cons (.pl (.var 3)) .nil)) (.cons (.call 4 (.cons (.pl (.var 1)) (.cons (.pl (.ix (.var 3) (.cst (.int (0))))) .nil))) .nil))) (.cons (.asg (.nm 4) (.lc [11, 12] (.tup (.cons (.nm 11) (.cons (.nm 12) .nil))) (.e (.pl (.ix (.var 3) (.cst (.int (1)))))) .nil (.fz 11) .frz)) (.cons (.for (.nm 5) (.rng (.cons (.app .add (.cons (.cst (.int (1))) (.cons (.call 1 (.cons (.pl (.var 1)) (.cons (.cst (.int (6))) .nil))) .nil))) .nil)) (.cons (.asg (.nm 8) (.app .list (.cons (.pl (.var 7)) .nil))) (.cons (.for (.nm 9) (.rng (.cons (.cst (.int (2))) .nil)) (.cons (.asg (.nm 10) (.call 18 (.cons (.pl (.var 6)) (.cons (.pl (.var 8)) .nil)))) (.cons (.ife (.or (.not (.call 9 (.cons (.pl (.var 10)) (.cons (.call 19 (.cons (.fz 3) (.cons (.pl (.var 7)) .nil))) .nil)))) (.app .ne (.cons (.pl (.var 8)) (.cons (.pl (.var 7)) .nil)))) (.cons (.ret (.cst (.bl false))) .nil) .nil) (.cons (.exp (.mut .append (.var 10) (.cons (.cst (.str "zz")) .nil))) (.cons (.exp (.mut .reverse (.var 10) .nil)) .nil))))) (.cons (.ife (.app .ne (.cons (.pl (.var 4)) (.cons (.lst .frz .nil) .nil))) (.cons (.asg (.nm 7) (.app .ix (.cons (.fzt (.call 20 (.cons (.fz 3) (.cons (.pl (.var 7)) (.cons (.app .ix (.cons (.pl (.var 4)) (.cons (.call 1 (.cons (.pl (.var 1)) (.cons (.app .len (.cons (.pl (.var 4)) .nil)) .nil))) .nil))) .nil))))) (.cons (.cst (.int (1))) .nil)))) .nil) .nil) .nil)))) .nil))))) (.cons (.ret (.cst (.bl true))) .nil)))
def c1 : Ss := (.cons (.ife (.app .eq (.cons (.pl (.ix (.var 0) (.cst (.int (0))))) (.cons (.cst (.int (0))) .nil))) (.cons (.asg (.nm 4) (.cst (.int (0)))) (.cons (.ife (.app .lt (.cons (.pl (.ix (.var 0) (.cst (.int (2))))) (.cons (.app .len (.cons (.pl (.ix (.var 0) (.cst (.int (3))))) .nil)) .nil))) (.cons (.asg (.nm 4) (.app .ix (.cons (.pl (.ix (.var 0) (.cst (.int (3))))) (.cons (.pl (.ix (.var 0) (.cst (.int (2))))) .nil)))) .nil) .nil) (.cons (.augi (.var 0) (.cst (.int (2))) .add (.cst (.int (1)))) (.cons (.ife (.app .ge (.cons (.pl (.var 4)) (.cons (.cst (.int (1000000000000000000))) .nil))) (.cons (.seti (.var 0) (.cst (.int (0))) (.fz 4)) .nil) .nil) (.cons (.seti (.var 0) (.cst (.int (1))) (.app .mod (.cons (.app .add (.cons (.app .add (.cons (.app .mul (.cons (.pl (.ix (.var 0) (.cst (.int (1))))) (.cons (.cst (.int (48271))) .nil))) (.cons (.app .mod (.cons (.pl (.var 4)) (.cons (.cst (.int (2147483647))) .nil))) .nil))) (.cons (.app .mul (.cons (.cst (.int (7919))) (.cons (.pl (.ix (.var 0) (.cst (.int (2))))) .nil))) .nil))) (.cons (.cst (.int (2147483647))) .nil)))) .nil))))) .nil) (.cons (.ife (.app .gt (.cons (.pl (.ix (.var 0) (.cst (.int (0))))) (.cons (.cst (.int (0))) .nil))) (.cons (.asg (.nm 5) (.app .mod (.cons (.pl (.ix (.var 0) (.cst (.int (0))))) (.cons (.pl (.var 1)) .nil)))) (.cons (.seti (.var 0) (.cst (.int (0))) (.app .fdiv (.cons (.pl (.ix (.var 0) (.cst (.int (0))))) (.cons (.pl (.var 1)) .nil)))) (.cons (.ret (.fz 5)) .nil))) .nil) (.cons (.asg (.nm 2) (.app .mod (.cons (.app .mul (.cons (.app .add (.cons (.pl (.ix (.var 0) (.cst (.int (1))))) (.cons (.cst (.int (1))) .nil))) (.cons (.cst (.int (39373))) .nil))) (.cons (.cst (.int (1000000007))) .nil)))) (.cons (.asg (.nm 3) (.app .mod (.cons (.app .mul (.cons (.app .mod (.cons (.app .mul (.cons (.pl (.var 2)) (.cons (.pl (.var 2)) .nil))) (.cons (.cst (.int (998244353))) .nil))) (.cons (.cst (.int (30011))) .nil))) (.cons (.cst (.int (998244353))) .nil)))) (.cons (.ife (.app .gt (.cons (.pl (.var 1)) (.cons (.cst (.int (1000000))) .nil))) (.cons (.ret (.app .mod (.cons (.app .add (.cons (.app .mul (.cons (.pl (.var 3)) (.cons (.cst (.int (1000000007))) .nil))) (.cons (.pl (.var 2)) .nil))) (.cons (.pl (.var 1)) .nil)))) .nil) .nil) (.cons (.ret (.app .mod (.cons (.app .fdiv (.cons (.pl (.var 3)) (.cons (.cst (.int (7))) .nil))) (.cons (.pl (.var 1)) .nil)))) .nil))))))
def c2 : Ss := (.cons (.ret (.lst .frz (.cons (.cst (.int (0))) (.cons (.cst (.int (1234567891))) (.cons (.cst (.int (0))) (.cons (.lc [1] (.nm 1) (.e (.app (.sl false true) (.cons (.pl (.var 0)) (.cons (.cst (.int (63))) .nil)))) .nil (.app .abs (.cons (.pl (.var 1)) .nil)) .frz) .nil)))))) .nil)
def c3 : Ss := (.cons (.asg (.nm 2) (.cst (.str "abcdefghijklmnopqrstuvwxyz"))) (.cons (.asg (.nm 3) (.cst (.str "call retire hire late undo redo line live keepers log ends depth settle lose reach"))) (.cons (.asg (.nm 3) (.bm .split (.app .add (.cons (.pl (.var 3)) (.cons (.cst (.str " safe calls cycle ok workers desk a b ab")) .nil))) (.cons (.cst (.str " ")) .nil))) (.cons (.asg (.tup (.cons (.nm 8) (.cons (.nm 9) .nil))) (.tup (.cons (.call 1 (.cons (.pl (.var 0)) (.cons (.cst (.int (5))) .nil))) (.cons (.call 1 (.cons (.pl (.var 0)) (.cons (.cst (.int (26))) .nil))) .nil)))) (.cons (.asg (.nm 4) (.app .add (.cons (.cst (.int (1))) (.cons (.call 1 (.cons (.pl (.var 0)) (.cons (.cst (.int (6))) .nil))) .nil)))) (.cons (.asg (.nm 5) (.bm .join (.cst (.str "")) (.cons (.lc [10] (.nm 10) (.rng (.cons (.pl (.var 4)) .nil)) .nil (.app .ix (.cons (.pl (.var 2)) (.cons (.call 1 (.cons (.pl (.var 0)) (.cons (.cst (.int (26))) .nil))) .nil))) .frz) .nil))) (.cons (.asg (.nm 6) (.call 1 (.cons (.pl (.var 0)) (.cons (.pl (.var 4)) .nil)))) (.cons (.ife (.and (.app .eq (.cons (.pl (.var 8)) (.cons (.cst (.int (0))) .nil))) (.app .le (.cons (.pl (.var 1)) (.cons (.cst (.int (24))) .nil)))) (.cons (.ret (.app (.sl false true) (.cons (.app .add (.cons (.app (.sl true false) (.cons (.pl (.var 3)) (.cons (.app .mod (.cons (.pl (.var 9)) (.cons (.cst (.int (24))) .nil))) .nil))) (.cons (.app (.sl false true) (.cons (.pl (.var 3)) (.cons (.app .mod (.cons (.pl (.var 9)) (.cons (.cst (.int (24))) .nil))) .nil))) .nil))) (.cons (.pl (.var 1)) .nil)))) .nil) .nil) (.cons (.ife (.and (.app .eq (.cons (.pl (.var 8)) (.cons (.cst (.int (1))) .nil))) (.app .le (.cons (.pl (.var 1)) (.cons (.cst (.int (8))) .nil)))) (.cons (.ret (.lc [10] (.nm 10) (.rng (.cons (.pl (.var 1)) .nil)) .nil (.app (.sl false true) (.cons (.app .mul (.cons (.pl (.ix (.var 2) (.var 9))) (.cons (.cst (.int (8))) .nil))) (.cons (.app .add (.cons (.pl (.var 10)) (.cons (.cst (.int (1))) .nil))) .nil))) .frz)) .nil) .nil) (.cons (.asg (.nm 7) (.lc [10] (.nm 10) (.rng (.cons (.pl (.var 1)) .nil)) .nil (.app .add (.cons (.app .add (.cons (.app (.sl false true) (.cons (.pl (.var 5)) (.cons (.pl (.var 6)) .nil))) (.cons (.app .ix (.cons (.pl (.var 2)) (.cons (.app .mod (.cons (.app .add (.cons (.pl (.var 9)) (.cons (.app .mul (.cons (.cst (.int (3))) (.cons (.pl (.var 10)) .nil))) .nil))) (.cons (.cst (.int (26))) .nil))) .nil))) .nil))) (.cons (.app (.sl true false) (.cons (.pl (.var 5)) (.cons (.app .add (.cons (.pl (.var 6)) (.cons (.cst (.int (1))) .nil))) .nil))) .nil))) .frz)) (.cons (.ret (.lc [10] (.nm 10) (.rng (.cons (.pl (.var 1)) .nil)) .nil (.app .add (.cons (.pl (.ix (.var 7) (.var 10))) (.cons (.app .mul (.cons (.pl (.ix (.var 5) (.cst (.int (0))))) (.cons (.app .fdiv (.cons (.pl (.var 10)) (.cons (.cst (.int (26))) .nil))) .nil))) .nil))) .frz)) .nil)))))))))))
def c4 : Ss := (.cons (.asg (.nm 2) (.lst .frz .nil)) (.cons (.for (.nm 3) (.e (.pl (.var 1))) (.cons (.exp (.mut .insert (.var 2) (.cons (.call 1 (.cons (.pl (.var 0)) (.cons (.app .add (.cons (.app .len (.cons (.pl (.var 2)) .nil)) (.cons (.cst (.int (1))) .nil))) .nil))) (.cons (.fz 3) .nil)))) .nil)) (.cons (.ret (.fz 2)) .nil)))
def c5 : Ss := (.cons (.asg (.nm 3) (.app .len (.cons (.pl (.var 1)) .nil))) (.cons (.asg (.tup (.cons (.nm 4) (.cons (.nm 5) .nil))) (.tup (.cons (.call 1 (.cons (.pl (.var 0)) (.cons (.pl (.var 3)) .nil))) (.cons (.call 1 (.cons (.pl (.var 0)) (.cons (.pl (.var 3)) .nil))) .nil)))) (.cons (.ife (.app .eq (.cons (.pl (.var 2)) (.cons (.cst (.int (0))) .nil))) (.cons (.ret (.lst .frz (.cons (.pl (.ix (.var 1) (.var 4))) .nil))) .nil) .nil) (.cons (.ife (.app .eq (.cons (.pl (.var 2)) (.cons (.cst (.int (1))) .nil))) (.cons (.ret (.app .add (.cons (.lst .frz (.cons (.pl (.ix (.var 1) (.var 4))) .nil)) (.cons (.app .mul (.cons (.lst .frz (.cons (.pl (.ix (.var 1) (.var 5))) .nil)) (.cons (.app .int (.cons (.app .ne (.cons (.pl (.var 5)) (.cons (.pl (.var 4)) .nil))) .nil)) .nil))) .nil)))) .nil) .nil) (.cons (.ife (.app .eq (.cons (.pl (.var 2)) (.cons (.cst (.int (2))) .nil))) (.cons (.ret (.call 4 (.cons (.pl (.var 0)) (.cons (.sl2 (.pl (.var 1)) (.app .min2 (.cons (.pl (.var 4)) (.cons (.pl (.var 5)) .nil))) (.app .add (.cons (.app .max2 (.cons (.pl (.var 4)) (.cons (.pl (.var 5)) .nil))) (.cons (.cst (.int (1))) .nil)))) .nil)))) .nil) .nil) (.cons (.ife (.app .eq (.cons (.pl (.var 2)) (.cons (.cst (.int (3))) .nil))) (.cons (.asg (.nm 6) (.lc [7] (.nm 7) (.e (.pl (.var 1))) (.cons (.or (.app .eq (.cons (.pl (.var 7)) (.cons (.pl (.ix (.var 1) (.var 4))) .nil))) (.app .eq (.cons (.call 1 (.cons (.pl (.var 0)) (.cons (.cst (.int (3))) .nil))) (.cons (.cst (.int (0))) .nil)))) .nil) (.fz 7) .frz)) (.cons (.ret (.call 4 (.cons (.pl (.var 0)) (.cons (.fz 6) .nil)))) .nil)) .nil) (.cons (.ret (.call 4 (.cons (.pl (.var 0)) (.cons (.fz 1) .nil)))) .nil)))))))
def c6 : Ss := (.cons (.asg (.nm 3) (.app .add (.cons (.cst (.int (1))) (.cons (.call 1 (.cons (.pl (.var 0)) (.cons (.pl (.var 1)) .nil))) .nil)))) (.cons (.asg (.nm 4) (.call 3 (.cons (.pl (.var 0)) (.cons (.pl (.var 3)) .nil)))) (.cons (.asg (.nm 5) (.call 3 (.cons (.pl (.var 0)) (.cons (.call 1 (.cons (.pl (.var 0)) (.cons (.app .add (.cons (.pl (.var 2)) (.cons (.cst (.int (1))) .nil))) .nil))) .nil)))) (.cons (.asg (.nm 6) (.call 1 (.cons (.pl (.var 0)) (.cons (.cst (.int (6))) .nil)))) (.cons (.asg (.nm 7) (.lst .frz .nil)) (.cons (.for (.tup (.cons (.nm 8) (.cons (.nm 9) .nil))) (.enum (.pl (.var 5))) (.cons (.asg (.nm 10) (.app .ix (.cons (.lst .frz (.cons (.call 1 (.cons (.pl (.var 0)) (.cons (.cst (.int (5))) .nil))) (.cons (.call 1 (.cons (.pl (.var 0)) (.cons (.cst (.int (5))) .nil))) (.cons (.cst (.int (1))) (.cons (.cst (.int (2))) (.cons (.cst (.int (3))) (.cons (.app .int (.cons (.app .ge (.cons (.pl (.var 8)) (.cons (.pl (.var 3)) .nil))) .nil)) .nil))))))) (.cons (.pl (.var 6)) .nil)))) (.cons (.asg (.nm 11) (.call 5 (.cons (.pl (.var 0)) (.cons (.fz 4) (.cons (.pl (.var 10)) .nil))))) (.cons (.ife (.and (.app .eq (.cons (.pl (.var 6)) (.cons (.cst (.int (5))) .nil))) (.app .lt (.cons (.pl (.var 8)) (.cons (.pl (.var 3)) .nil)))) (.cons (.asg (.nm 11) (.lst .frz (.cons (.pl (.ix (.var 4) (.var 8))) .nil))) .nil) .nil) (.cons (.exp (.mut .append (.var 7) (.cons (.tup (.cons (.fz 9) (.cons (.fz 11) .nil))) .nil))) .nil))))) (.cons (.ife (.and (.app .gt (.cons (.app .len (.cons (.pl (.var 7)) .nil)) (.cons (.cst (.int (1))) .nil))) (.app .eq (.cons (.call 1 (.cons (.pl (.var 0)) (.cons (.cst (.int (4))) .nil))) (.cons (.cst (.int (0))) .nil)))) (.cons (.seti (.var 7) (.app .neg (.cons (.cst (.int (1))) .nil)) (.tup (.cons (.pl (.ix (.ix (.var 7) (.cst (.int (-1)))) (.cst (.int (0))))) (.cons (.call 4 (.cons (.pl (.var 0)) (.cons (.pl (.ix (.ix (.var 7) (.cst (.int (0)))) (.cst (.int (1))))) .nil))) .nil)))) .nil) .nil) (.cons (.ret (.tup (.cons (.call 4 (.cons (.pl (.var 0)) (.cons (.fz 4) .nil))) (.cons (.call 4 (.cons (.pl (.var 0)) (.cons (.fz 7) .nil))) .nil)))) .nil))))))))
def c7 : Ss := (.cons (.asg (.tup (.cons (.nm 1) (.cons (.nm 2) .nil))) (.app .ix (.cons (.lst .frz (.cons (.tup (.cons (.cst (.int (5))) (.cons (.cst (.int (7))) .nil))) (.cons (.tup (.cons (.cst (.int (5))) (.cons (.cst (.int (7))) .nil))) (.cons (.tup (.cons (.cst (.int (8))) (.cons (.cst (.int (12))) .nil))) (.cons (.tup (.cons (.cst (.int (40))) (.cons (.cst (.int (60))) .nil))) .nil))))) (.cons (.call 1 (.cons (.pl (.var 0)) (.cons (.cst (.int (4))) .nil))) .nil)))) (.cons (.ret (.call 6 (.cons (.pl (.var 0)) (.cons (.pl (.var 1)) (.cons (.pl (.var 2)) .nil))))) .nil))
def c8 : Ss := (.cons (.ret (.new 0 (.cons (.app .list (.cons (.pl (.ix (.var 0) (.cst (.int (0))))) .nil)) (.cons (.lc [1, 2] (.tup (.cons (.nm 1) (.cons (.nm 2) .nil))) (.e (.pl (.ix (.var 0) (.cst (.int (1)))))) .nil (.tup (.cons (.fz 1) (.cons (.app .list (.cons (.pl (.var 2)) .nil)) .nil))) .frz) .nil)))) .nil)
def c9 : Ss := (.cons (.ret (.and (.app .eq (.cons (.pl (.var 0)) (.cons (.pl (.var 1)) .nil))) (.app .eq (.cons (.app .repr (.cons (.pl (.var 0)) .nil)) (.cons (.app .repr (.cons (.pl (.var 1)) .nil)) .nil))))) .nil)
def c10 : Ss := (.cons (.ife (.or (.not (.app (.isi 2) (.cons (.pl (.var 0)) .nil))) (.not (.chn .le .le (.cst (.int (1))) (.app .len (.cons (.pl (.var 0)) .nil)) (.glo "LONGEST_NAME" (.int (8)))))) (.cons (.ret (.cst (.bl false))) .nil) .nil) (.cons (.ret (.app .all (.cons (.lc [1] (.nm 1) (.e (.pl (.var 0))) .nil (.app .isIn (.cons (.pl (.var 1)) (.cons (.glo "LETTERS" (.str "abcdefghijklmnopqrstuvwxyz")) .nil))) .frz) .nil))) .nil))
def c11 : Ss := (.cons (.ife (.or (.not (.app (.isi 3) (.cons (.pl (.var 0)) .nil))) (.not (.app .all (.cons (.lc [1] (.nm 1) (.e (.pl (.var 0))) .nil (.call 10 (.cons (.pl (.var 1)) .nil)) .frz) .nil)))) (.cons (.ret (.cst (.bl false))) .nil) .nil) (.cons (.ret (.app .eq (.cons (.app .setlen (.cons (.pl (.var 0)) .nil)) (.cons (.app .len (.cons (.pl (.var 0)) .nil)) .nil)))) .nil))
def c12 : Ss := (.cons (.ife (.or (.not (.app (.isi 4) (.cons (.pl (.var 1)) .nil))) (.or (.app .ne (.cons (.app .len (.cons (.pl (.var 1)) .nil)) (.cons (.cst (.int (2))) .nil))) (.not (.call 10 (.cons (.pl (.ix (.var 1) (.cst (.int (0))))) .nil))))) (.cons (.ret (.cst (.bl false))) .nil) .nil) (.cons (.asg (.nm 2) (.pl (.ix (.var 1) (.cst (.int (1)))))) (.cons (.ret (.and (.call 11 (.cons (.pl (.var 2)) .nil)) (.and (.app .ne (.cons (.pl (.var 2)) (.cons (.lst .frz .nil) .nil))) (.app .all (.cons (.lc [3] (.nm 3) (.e (.pl (.var 2))) .nil (.app .isIn (.cons (.pl (.var 3)) (.cons (.pl (.var 0)) .nil))) .frz) .nil))))) .nil)))
def c13 : Ss := (.cons (.ife (.or (.not (.call 11 (.cons (.pl (.var 1)) .nil))) (.not (.chn .le .le (.cst (.int (1))) (.app .len (.cons (.pl (.var 1)) .nil)) (.glo "MOST_WORKERS" (.int (40)))))) (.cons .wall .nil) .nil) (.cons (.ife (.or (.not (.app (.isi 3) (.cons (.pl (.var 2)) .nil))) (.app .gt (.cons (.app .len (.cons (.pl (.var 2)) .nil)) (.cons (.glo "MOST_DESKS" (.int (60))) .nil)))) (.cons .wall .nil) .nil) (.cons (.asg (.nm 3) (.newd false .frz)) (.cons (.for (.tup (.cons (.nm 4) (.cons (.nm 5) .nil))) (.enum (.pl (.var 2))) (.cons (.ife (.or (.not (.call 12 (.cons (.pl (.var 1)) (.cons (.pl (.var 5)) .nil)))) (.app .isIn (.cons (.pl (.ix (.var 5) (.cst (.int (0))))) (.cons (.pl (.var 3)) .nil)))) (.cons .wall .nil) .nil) (.cons (.seti (.var 3) (.pl (.ix (.var 5) (.cst (.int (0))))) (.app .sorted (.cons (.pl (.ix (.var 5) (.cst (.int (1))))) .nil))) .nil))) (.cons (.seta (.var 0) 0 (.app .sorted (.cons (.pl (.var 1)) .nil))) (.cons (.seta (.var 0) 1 (.fz 3)) .nil))))))
def c14 : Ss := (.cons (.ret (.app .list (.cons (.pl (.attr (.var 0) 0)) .nil))) .nil)
def c15 : Ss := (.cons (.ret (.app .sorted (.cons (.pl (.attr (.var 0) 1)) .nil))) .nil)
def c16 : Ss := (.cons (.ife (.app .notIn (.cons (.pl (.var 1)) (.cons (.pl (.attr (.var 0) 1)) .nil))) (.cons .wall .nil) .nil) (.cons (.ret (.app .list (.cons (.pl (.ix (.attr (.var 0) 1) (.var 1))) .nil))) .nil))
def c17 : Ss := (.cons (.ife (.app .notIn (.cons (.pl (.var 1)) (.cons (.pl (.attr (.var 0) 0)) .nil))) (.cons .wall .nil) .nil) (.cons (.ret (.lc [2] (.nm 2) (.e (.mcall 0 15 (.pl (.var 0)) .nil)) (.cons (.app .isIn (.cons (.pl (.var 1)) (.cons (.pl (.ix (.attr (.var 0) 1) (.var 2))) .nil))) .nil) (.fz 2) .frz)) .nil))
def c18 : Ss := (.cons (.asg (.nm 2) (.app .dict (.cons (.call 21 (.cons (.pl (.var 0)) (.cons (.pl (.var 1)) .nil))) .nil))) (.cons (.asg (.nm 3) (.lst .frz .nil)) (.cons (.for (.nm 4) (.e (.mcall 0 14 (.pl (.var 0)) .nil)) (.cons (.asg (.nm 5) (.mcall 0 17 (.pl (.var 0)) (.cons (.pl (.var 4)) .nil))) (.cons (.ife (.and (.app .ne (.cons (.pl (.var 5)) (.cons (.lst .frz .nil) .nil))) (.app .all (.cons (.lc [6] (.nm 6) (.e (.pl (.var 5))) .nil (.app .eq (.cons (.pl (.ix (.var 2) (.var 6))) (.cons (.pl (.var 4)) .nil))) .frz) .nil))) (.cons (.exp (.mut .append (.var 3) (.cons (.fz 4) .nil))) .nil) .nil) .nil))) (.cons (.ret (.mv 3)) .nil))))
def c19 : Ss := (.cons (.asg (.tup (.cons (.nm 2) (.cons (.nm 3) .nil))) (.tup (.cons (.lc [5, 7] (.tup (.cons (.nm 7) (.cons (.nm 5) .nil))) (.e (.pl (.ix (.var 0) (.cst (.int (1)))))) .nil (.tup (.cons (.call 22 (.cons (.pl (.var 5)) (.cons (.pl (.var 1)) .nil))) (.cons (.fz 5) .nil))) .frz) (.cons (.newd false .frz) .nil)))) (.cons (.for (.tup (.cons (.nm 4) (.cons (.nm 5) .nil))) (.e (.pl (.var 2))) (.cons (.for (.nm 6) (.e (.pl (.var 5))) (.cons (.ife (.app .ne (.cons (.pl (.var 6)) (.cons (.pl (.var 4)) .nil))) (.cons (.seti (.var 3) (.pl (.var 6)) (.cst (.bl true))) .nil) .nil) .nil)) .nil)) (.cons (.ret (.app .sortset (.cons (.lc [4, 5] (.tup (.cons (.nm 4) (.cons (.nm 5) .nil))) (.e (.pl (.var 2))) (.cons (.app .notIn (.cons (.pl (.var 4)) (.cons (.pl (.var 3)) .nil))) .nil) (.fz 4) .frz) .nil))) .nil)))
def c20 : Ss := (.cons (.asg (.nm 3) (.call 22 (.cons (.app .ix (.cons (.app .dict (.cons (.pl (.ix (.var 0) (.cst (.int (1))))) .nil)) (.cons (.pl (.var 2)) .nil))) (.cons (.pl (.var 1)) .nil)))) (.cons (.ret (.tup (.cons (.fz 3) (.cons (.app .add (.cons (.lst .frz (.cons (.fz 3) .nil)) (.cons (.lc [4] (.nm 4) (.e (.pl (.var 1))) (.cons (.app .ne (.cons (.pl (.var 4)) (.cons (.pl (.var 3)) .nil))) .nil) (.fz 4) .frz) .nil))) .nil)))) .nil))
def c21 : Ss := (.cons (.ret (.lc [2] (.nm 2) (.e (.mcall 0 15 (.pl (.var 0)) .nil)) .nil (.tup (.cons (.fz 2) (.cons (.call 23 (.cons (.mcall 0 16 (.pl (.var 0)) (.cons (.pl (.var 2)) .nil)) (.cons (.pl (.var 1)) .nil))) .nil))) .frz)) .nil)
def c22 : Ss := (.cons (.ret (.app .ix (.cons (.lc [2] (.nm 2) (.e (.pl (.var 1))) (.cons (.app .isIn (.cons (.pl (.var 2)) (.cons (.pl (.var 0)) .nil))) .nil) (.fz 2) .frz) (.cons (.cst (.int (0))) .nil)))) .nil)
def c23 : Ss := (.cons (.ret (.app .ix (.cons (.lc [2] (.nm 2) (.e (.pl (.var 1))) (.cons (.app .isIn (.cons (.pl (.var 2)) (.cons (.pl (.var 0)) .nil))) .nil) (.fz 2) .frz) (.cons (.cst (.int (0))) .nil)))) .nil)
def modes : Nat → List Md
  | 0 => [.bor]
  | 1 => [.io, .bor]
  | 2 => [.bor]
  | 3 => [.io, .bor]
  | 4 => [.io, .frz]
  | 5 => [.io, .frz, .bor]
  | 6 => [.io, .bor, .bor]
  | 7 => [.io]
  | 8 => [.bor]
  | 9 => [.bor, .bor]
  | 10 => [.bor]
  | 11 => [.bor]
  | 12 => [.bor, .bor]
  | 13 => [.io, .bor, .bor]
  | 14 => [.bor]
  | 15 => [.bor]
  | 16 => [.bor, .bor]
  | 17 => [.bor, .bor]
  | 18 => [.bor, .bor]
  | 19 => [.frz, .bor]
  | 20 => [.frz, .bor, .bor]
  | 21 => [.bor, .bor]
  | 22 => [.bor, .bor]
  | 23 => [.bor, .bor]
  | _ => []
def initOf : Nat → Nat
  | 0 => 13
  | _ => 999
def gdOf (c f : Nat) : Bool := decide (c < 1) && decide (f < 2)
def shows : Nat → Bool
  | 0 => true
  | 1 => false
  | 2 => false
  | 3 => false
  | 4 => false
  | 5 => false
  | 6 => false
  | 7 => false
  | 8 => false
  | 9 => true
  | 10 => false
  | 11 => false
  | 12 => false
  | 13 => false
  | 14 => false
  | 15 => false
  | 16 => false
  | 17 => false
  | 18 => false
  | 19 => false
  | 20 => false
  | 21 => false
  | 22 => false
  | 23 => false
  | _ => false
def sg : Sig := ⟨modes, initOf, fun _ _ => false, gdOf, shows⟩
def names : Nat → List Str
  | 0 => ["script", "bag", "turn", "parts", "names", "k", "roster", "line", "handed", "again", "told", "name", "crew"]
  | 1 => ["bag", "many", "first", "second", "cell", "value"]
  | 2 => ["script", "cell"]
  | 3 => ["bag", "many", "letters", "words", "size", "base", "at", "found", "way", "turn", "k"]
  | 4 => ["bag", "some", "found", "one"]
  | 5 => ["bag", "workers", "way", "many", "at", "to", "found", "one"]
  | 6 => ["bag", "most", "desks", "many", "workers", "names", "style", "found", "k", "name", "way", "crew"]
  | 7 => ["bag", "most", "desks"]
  | 8 => ["parts", "name", "crew"]
  | 9 => ["found", "due"]
  | 10 => ["thing", "letter"]
  | 11 => ["thing", "one"]
  | 12 => ["workers", "thing", "crew", "worker"]
  | 13 => ["self", "workers", "desks", "table", "at", "desk"]
  | 14 => ["self"]
  | 15 => ["self"]
  | 16 => ["self", "desk"]
  | 17 => ["self", "worker", "desk"]
  | 18 => ["roster", "line", "kept", "found", "worker", "desks", "desk"]
  | 19 => ["parts", "line", "kept", "lost", "keeper", "crew", "worker", "name"]
  | 20 => ["parts", "line", "desk", "server", "one"]
  | 21 => ["roster", "line", "desk"]
  | 22 => ["crew", "line", "one"]
  | 23 => ["crew", "line", "worker"]
  | _ => []
def defsOf : Nat → Option (Nat × Ss)
  | 0 => some (13, c0)
  | 1 => some (6, c1)
  | 2 => some (2, c2)
  | 3 => some (11, c3)
  | 4 => some (4, c4)
  | 5 => some (8, c5)
  | 6 => some (12, c6)
  | 7 => some (3, c7)
  | 8 => some (3, c8)
  | 9 => some (2, c9)
  | 10 => some (2, c10)
  | 11 => some (2, c11)
  | 12 => some (4, c12)
  | 13 => some (6, c13)
  | 14 => some (1, c14)
  | 15 => some (1, c15)
  | 16 => some (2, c16)
  | 17 => some (3, c17)
  | 18 => some (7, c18)
  | 19 => some (8, c19)
  | 20 => some (5, c20)
  | 21 => some (3, c21)
  | 22 => some (3, c22)
  | 23 => some (3, c23)
  | _ => none
def P : Prog := ⟨sg, defsOf⟩
abbrev pw : PySem.Program := PySem.Challenge.pw_deskkeepers_k26_masters
abbrev rw_ : PySem.W.OpenLaw := PySem.Challenge.rw_deskkeepers_k26_masters
def top (i : Nat) : Stmt := pw.main.body.getD i (.Pass ⟨0, 0, 0, 0⟩)
def inCls (s : Stmt) : List Stmt := match s with
  | .ClassDef _ _ _ b _ _ _ _ _ _ _ => b
  | _ => []
def mem (i j : Nat) : Stmt := (inCls (top i)).getD j (.Pass ⟨0, 0, 0, 0⟩)
def fn : List He.DefD := [
  ⟨("law", none), "law", "law", L2.defArgs (top 34), L2.defBody (top 34), L2.defScope (top 34), [], []⟩,
  ⟨("_law_take", none), "_law_take", "_law_take", L2.defArgs (top 23), L2.defBody (top 23), L2.defScope (top 23), [], []⟩,
  ⟨("_law_bag", none), "_law_bag", "_law_bag", L2.defArgs (top 22), L2.defBody (top 22), L2.defScope (top 22), [], []⟩,
  ⟨("_law_names", none), "_law_names", "_law_names", L2.defArgs (top 25), L2.defBody (top 25), L2.defScope (top 25), [], []⟩,
  ⟨("_law_mixed", none), "_law_mixed", "_law_mixed", L2.defArgs (top 26), L2.defBody (top 26), L2.defScope (top 26), [], []⟩,
  ⟨("_law_crew", none), "_law_crew", "_law_crew", L2.defArgs (top 27), L2.defBody (top 27), L2.defScope (top 27), [], []⟩,
  ⟨("_law_parts", none), "_law_parts", "_law_parts", L2.defArgs (top 28), L2.defBody (top 28), L2.defScope (top 28), [], []⟩,
  ⟨("_law_sized", none), "_law_sized", "_law_sized", L2.defArgs (top 32), L2.defBody (top 32), L2.defScope (top 32), [], []⟩,
  ⟨("_law_roster", none), "_law_roster", "_law_roster", L2.defArgs (top 29), L2.defBody (top 29), L2.defScope (top 29), [], []⟩,
  ⟨("_law_alike", none), "_law_alike", "_law_alike", L2.defArgs (top 24), L2.defBody (top 24), L2.defScope (top 24), [], []⟩,
  ⟨("is_name", none), "is_name", "is_name", L2.defArgs (top 10), L2.defBody (top 10), L2.defScope (top 10), [], []⟩,
  ⟨("are_names", none), "are_names", "are_names", L2.defArgs (top 11), L2.defBody (top 11), L2.defScope (top 11), [], []⟩,
  ⟨("is_desk", none), "is_desk", "is_desk", L2.defArgs (top 19), L2.defBody (top 19), L2.defScope (top 19), [], []⟩,
  ⟨("Roster", some "__init__"), "__init__", "Roster.__init__", L2.defArgs (mem 20 0), L2.defBody (mem 20 0), L2.defScope (mem 20 0), [], []⟩,
  ⟨("Roster", some "workers"), "workers", "Roster.workers", L2.defArgs (mem 20 1), L2.defBody (mem 20 1), L2.defScope (mem 20 1), [], []⟩,
  ⟨("Roster", some "desks"), "desks", "Roster.desks", L2.defArgs (mem 20 2), L2.defBody (mem 20 2), L2.defScope (mem 20 2), [], []⟩,
  ⟨("Roster", some "crew"), "crew", "Roster.crew", L2.defArgs (mem 20 3), L2.defBody (mem 20 3), L2.defScope (mem 20 3), [], []⟩,
  ⟨("Roster", some "desks_of"), "desks_of", "Roster.desks_of", L2.defArgs (mem 20 4), L2.defBody (mem 20 4), L2.defScope (mem 20 4), [], []⟩,
  ⟨("masters", none), "masters", "masters", L2.defArgs (top 15), L2.defBody (top 15), L2.defScope (top 15), [], []⟩,
  ⟨("_law_due", none), "_law_due", "_law_due", L2.defArgs (top 33), L2.defBody (top 33), L2.defScope (top 33), [], []⟩,
  ⟨("_law_served", none), "_law_served", "_law_served", L2.defArgs (top 31), L2.defBody (top 31), L2.defScope (top 31), [], []⟩,
  ⟨("keepers", none), "keepers", "keepers", L2.defArgs (top 14), L2.defBody (top 14), L2.defScope (top 14), [], []⟩,
  ⟨("_law_keeper", none), "_law_keeper", "_law_keeper", L2.defArgs (top 30), L2.defBody (top 30), L2.defScope (top 30), [], []⟩,
  ⟨("first_of", none), "first_of", "first_of", L2.defArgs (top 13), L2.defBody (top 13), L2.defScope (top 13), [], []⟩]
def meth : Nat → Option Nat
  | 13 => some 0
  | 14 => some 0
  | 15 => some 0
  | 16 => some 0
  | 17 => some 0
  | _ => none
def L : LawD := ⟨fn, ["Roster"], ["worker_list", "crew_table"], [("LETTERS", (.str "abcdefghijklmnopqrstuvwxyz")), ("LONGEST_NAME", (.int (8))), ("MOST_WORKERS", (.int (40))), ("MOST_DESKS", (.int (60)))], P, names, meth⟩
theorem tab : L.tabB = true := by decide +kernel
theorem d0 : L.defB 0 = true := by decide +kernel
theorem d1 : L.defB 1 = true := by decide +kernel
theorem d2 : L.defB 2 = true := by decide +kernel
theorem d3 : L.defB 3 = true := by decide +kernel
theorem d4 : L.defB 4 = true := by decide +kernel
theorem d5 : L.defB 5 = true := by decide +kernel
theorem d6 : L.defB 6 = true := by decide +kernel
theorem d7 : L.defB 7 = true := by decide +kernel
theorem d8 : L.defB 8 = true := by decide +kernel
theorem d9 : L.defB 9 = true := by decide +kernel
theorem d10 : L.defB 10 = true := by decide +kernel
theorem d11 : L.defB 11 = true := by decide +kernel
theorem d12 : L.defB 12 = true := by decide +kernel
theorem d13 : L.defB 13 = true := by decide +kernel
theorem d14 : L.defB 14 = true := by decide +kernel
theorem d15 : L.defB 15 = true := by decide +kernel
theorem d16 : L.defB 16 = true := by decide +kernel
theorem d17 : L.defB 17 = true := by decide +kernel
theorem d18 : L.defB 18 = true := by decide +kernel
theorem d19 : L.defB 19 = true := by decide +kernel
theorem d20 : L.defB 20 = true := by decide +kernel
theorem d21 : L.defB 21 = true := by decide +kernel
theorem d22 : L.defB 22 = true := by decide +kernel
theorem d23 : L.defB 23 = true := by decide +kernel
theorem dall : ∀ f, f < L.fn.length → L.defB f = true := by
  intro f hf
  match f, hf with
  | 0, _ => exact d0
  | 1, _ => exact d1
  | 2, _ => exact d2
  | 3, _ => exact d3
  | 4, _ => exact d4
  | 5, _ => exact d5
  | 6, _ => exact d6
  | 7, _ => exact d7
  | 8, _ => exact d8
  | 9, _ => exact d9
  | 10, _ => exact d10
  | 11, _ => exact d11
  | 12, _ => exact d12
  | 13, _ => exact d13
  | 14, _ => exact d14
  | 15, _ => exact d15
  | 16, _ => exact d16
  | 17, _ => exact d17
  | 18, _ => exact d18
  | 19, _ => exact d19
  | 20, _ => exact d20
  | 21, _ => exact d21
  | 22, _ => exact d22
  | 23, _ => exact d23
  | n + 24, h => exact absurd h (by show ¬ (n + 24 < 24); omega)
theorem hgd : L.P.sg.gd = L.gdB := rfl
theorem hb : ∀ (f : Nat) (d : He.DefD), L.fn[f]? = some d → ∀ (kV doc pm : Value) (an : Option Addr) (cdv ct : Value) (us : List Value), us.length = (L.ps f).length →
    bindArgs (PySem.W.fnOf d.name d.qual d.params d.body d.scope .none kV doc pm an cdv ct) ⟨us, []⟩ = pure ((L.ps f).zip us) := by
  intro f d hf
  match f, hf with
  | 0, hf =>
    cases hf
    exact fun _ _ _ _ _ _ us hl => match us, hl with | [_], _ => rfl
  | 1, hf =>
    cases hf
    exact fun _ _ _ _ _ _ us hl => match us, hl with | [_, _], _ => rfl
  | 2, hf =>
    cases hf
    exact fun _ _ _ _ _ _ us hl => match us, hl with | [_], _ => rfl
  | 3, hf =>
    cases hf
    exact fun _ _ _ _ _ _ us hl => match us, hl with | [_, _], _ => rfl
  | 4, hf =>
    cases hf
    exact fun _ _ _ _ _ _ us hl => match us, hl with | [_, _], _ => rfl
  | 5, hf =>
    cases hf
    exact fun _ _ _ _ _ _ us hl => match us, hl with | [_, _, _], _ => rfl
  | 6, hf =>
    cases hf
    exact fun _ _ _ _ _ _ us hl => match us, hl with | [_, _, _], _ => rfl
  | 7, hf =>
    cases hf
    exact fun _ _ _ _ _ _ us hl => match us, hl with | [_], _ => rfl
  | 8, hf =>
    cases hf
    exact fun _ _ _ _ _ _ us hl => match us, hl with | [_], _ => rfl
  | 9, hf =>
    cases hf
    exact fun _ _ _ _ _ _ us hl => match us, hl with | [_, _], _ => rfl
  | 10, hf =>
    cases hf
    exact fun _ _ _ _ _ _ us hl => match us, hl with | [_], _ => rfl
  | 11, hf =>
    cases hf
    exact fun _ _ _ _ _ _ us hl => match us, hl with | [_], _ => rfl
  | 12, hf =>
    cases hf
    exact fun _ _ _ _ _ _ us hl => match us, hl with | [_, _], _ => rfl
  | 13, hf =>
    cases hf
    exact fun _ _ _ _ _ _ us hl => match us, hl with | [_, _, _], _ => rfl
  | 14, hf =>
    cases hf
    exact fun _ _ _ _ _ _ us hl => match us, hl with | [_], _ => rfl
  | 15, hf =>
    cases hf
    exact fun _ _ _ _ _ _ us hl => match us, hl with | [_], _ => rfl
  | 16, hf =>
    cases hf
    exact fun _ _ _ _ _ _ us hl => match us, hl with | [_, _], _ => rfl
  | 17, hf =>
    cases hf
    exact fun _ _ _ _ _ _ us hl => match us, hl with | [_, _], _ => rfl
  | 18, hf =>
    cases hf
    exact fun _ _ _ _ _ _ us hl => match us, hl with | [_, _], _ => rfl
  | 19, hf =>
    cases hf
    exact fun _ _ _ _ _ _ us hl => match us, hl with | [_, _], _ => rfl
  | 20, hf =>
    cases hf
    exact fun _ _ _ _ _ _ us hl => match us, hl with | [_, _, _], _ => rfl
  | 21, hf =>
    cases hf
    exact fun _ _ _ _ _ _ us hl => match us, hl with | [_, _], _ => rfl
  | 22, hf =>
    cases hf
    exact fun _ _ _ _ _ _ us hl => match us, hl with | [_, _], _ => rfl
  | 23, hf =>
    cases hf
    exact fun _ _ _ _ _ _ us hl => match us, hl with | [_, _], _ => rfl
  | n + 24, hf => cases hf
abbrev hk : PySem.W.Hook := He.hookD 5 L.fa L.fn
abbrev R : PySem.W.OpenRow := PySem.W.OpenLaw.row rw_
def ob (s : PySem.W.SharedT) : He.AlD := He.obsDG 5 L.fa L.fn (HandSHeadRun.getT s)
theorem ob_eq (s : PySem.W.SharedT) : ob s = hk.obs s.abs := He.obsDG_eq (HandSHeadRun.getT_eq s)
def loose : List Str := ["_wall", "DeskError", "Wrong", "BadDesk", "NoDesk", "NoWorker", "LETTERS", "LONGEST_NAME", "is_name", "are_names", "first_of", "keepers", "masters", "MOST_WORKERS", "MOST_DESKS", "is_desk", "Roster", "_law_bag", "_law_take", "_law_alike", "_law_names", "_law_mixed", "_law_crew", "_law_parts", "_law_roster", "_law_keeper", "_law_served", "_law_sized", "_law_due"]
theorem run (w : World) : HandSHeadRun.RunEq R (PySem.W.view R.prog [34]) hk ob 8000 (["_wall", "DeskError", "Wrong", "BadDesk", "NoDesk", "NoWorker", "LETTERS", "LONGEST_NAME", "is_name", "are_names", "first_of", "keepers", "masters", "MOST_WORKERS", "MOST_DESKS", "is_desk", "Roster", "_law_bag", "_law_take", "_law_alike", "_law_names", "_law_mixed", "_law_crew", "_law_parts", "_law_roster", "_law_keeper", "_law_served", "_law_sized", "_law_due"]) w := by
  intro os
  kernel_rfl
theorem holds (hval : ∀ ns : List Int, ns.length ≤ 63 → ∃ s outs, callD P 12 0 [(.frz, .scr ns)] = some (.ok (s, .bl true) outs)) : rw_.Holds := by
  w_on; o_law
  refine HandSHeadRun.head_any (r := PySem.W.OpenLaw.row rw_) (q := PySem.W.view (PySem.W.OpenLaw.row rw_).prog [34]) (H := hk) (ob := ob) (M := 8000) (loose := ["_wall", "DeskError", "Wrong", "BadDesk", "NoDesk", "NoWorker", "LETTERS", "LONGEST_NAME", "is_name", "are_names", "first_of", "keepers", "masters", "MOST_WORKERS", "MOST_DESKS", "is_desk", "Roster", "_law_bag", "_law_take", "_law_alike", "_law_names", "_law_mixed", "_law_crew", "_law_parts", "_law_roster", "_law_keeper", "_law_served", "_law_sized", "_law_due"]) (d := HandSHeadRun.topDef (PySem.W.OpenLaw.row rw_).prog 34) (kwd := []) ob_eq
    (by kernel_rfl) (fun s => by kernel_rfl) run (by kernel_rfl) (by kernel_rfl) (by kernel_rfl) (by rfl) (by first | assumption | decide +kernel) (by decide +kernel) ⟨rfl, rfl, rfl, rfl, rfl, by decide +kernel⟩ ?hw ?hc
  case hw => w_witness2
  case hc =>
    refine walk_ofG (l := rw_) (n := 63) (k := 24) (x := "script") rfl (by decide) (by kernel_rfl) ⟨rfl, by decide, by decide⟩ ?_
    intro w mg fa h Y G hmg0
    obtain ⟨K, KX, c⟩ := Y
    have e : (HandSHeadRun.topDef (PySem.W.OpenLaw.row rw_).prog 34).name = ("law" : PySem.Str) := by kernel_rfl
    have hmg : mg ("law" : PySem.Str) = some (.ref fa) := by
      rw [← e]
      exact hmg0
    exact LawD.fin (L := L) (n := 12) tab dall hgd hb KX G c rfl rfl (by decide +kernel) rfl rfl hmg hval
end Lw
set_option  maxHeartbeats  4000000
namespace Lw
open PySem DI DI.PL
theorem std : K26L P where
  d1 := rfl
  m1 := rfl
  d2 := rfl
  m2 := rfl
  d3 := rfl
  m3 := rfl
  d4 := rfl
  m4 := rfl
  d5 := rfl
  m5 := rfl
  d6 := rfl
  m6 := rfl
  d7 := rfl
  m7 := rfl
  d8 := rfl
  m8 := rfl
  d9 := rfl
  m9 := rfl
  d10 := rfl
  m10 := rfl
  d11 := rfl
  m11 := rfl
  d12 := rfl
  m12 := rfl
  d13 := rfl
  m13 := rfl
  i0 := rfl
  g0 := rfl
  g1 := rfl
  d0 := rfl
  d14 := rfl
  m14 := rfl
  d15 := rfl
  m15 := rfl
  d16 := rfl
  m16 := rfl
  d17 := rfl
  m17 := rfl
  d18 := rfl
  m18 := rfl
  d19 := rfl
  m19 := rfl
  d20 := rfl
  m20 := rfl
  d21 := rfl
  m21 := rfl
  d22 := rfl
  m22 := rfl
  d23 := rfl
  m23 := rfl
end Lw
theorem PySem.Challenge.cw_deskkeepers_k26_masters_holds : PySem.Challenge.rw_deskkeepers_k26_masters.Holds :=
  Lw.holds (DI.PL.k26_val Lw.std)
