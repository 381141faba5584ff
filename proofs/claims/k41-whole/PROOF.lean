import PyProof.Rows.All
import Wide.All
import OpenK.AllK
import Wide.FinOn
import HandS.ForMost
import HandS.Exc
import HandS.Star
import HandS.Set
import HandS.SetFor
import HandS.SetBool
import HandS.Strs
import HandS.GenList
import HandS.Comp
import HandS.ExcInit
import HandS.ExcValue
import HandS.ExcIs
import HandS.ExcField
import HandS.IsInst
import HandS.List
import KE.KStateDown
import HandS.Words
import HandS.WordsExc
import HandS.Defaults
import HandS.Property
import HandS.Iter
import HandS.Conv
import HandS.Flow
import HandS.Style
import HandS.Text
import HandS.WideBits
import HandS.DictComp
import HandS.TupAny
import HandS.Steps
import HandS.Walk
import HandS.HeadHook1
import HandS.SlotsOwn
import HandS.ExcOwn
import HandS.Head0
import HandS.Head1
import HandS.Head2
import HandS.HeadEnd
import HandS.HeadHook2
import PySem.Challenge.RW_layoutsets_k41_whole_documents_of_a_desk
set_option Elab.async false
set_option linter.all false
set_option maxRecDepth 100000
set_option maxHeartbeats 4000000
/-! Own rules, 1: operators of an own class; a dict displayed from another dict and a pair; great powers. -/
namespace Q41
open PySem PySem.Spec PyProof.Rows L2
section
variable {X : Cx}
theorem no_ni {z : V} (h : L2.RelV z Value.notImplemented) : False := by
  cases z <;> simp [L2.RelV] at h
/-- both operands stand for the same class, which defines the operator by a plain def -/
structure OpOf (K : PySem.W.Frag) (C f : Addr) (nm : Str) : Prop where
  first : PySem.W.selfFirst K C = true
  at_ : PySem.W.findIn K (.ref C) nm = some (some (.ref f))
  fn : PySem.W.isFn K (.ref f) = true
def rOwn (C : Addr) (sp : Sp) (E : XK) : R2 := fun x y H Q => ∃ a b dx dy fs gs, x = .ref a ∧ y = .ref b ∧ H a = some (.ins C dx fs) ∧ H b = some (.ins C dy gs) ∧ sp [.ref a, .ref b] H Q E
theorem op_own {CX : CXT} {k : Nat} {C f : Addr} {fd : FuncData} {ps : List Str} {sp : Sp} {E : XK} {op : Operator} (o : OpOf X.K C f (PySem.dunder op.info.2)) (F : FnOk X.prog X.w X.K X.mg X.base CX k f fd ps sp)
    (hr : Room k X.A) (hb : Binds X.K fd ps []) (hx : Passes CX X E) : OpR X (binaryOp op) (rOwn C sp E) := by
  intro pins s σ H x y v u Q I rx ry h
  obtain ⟨a, b, dx, dy, fs, gs, rfl, rfl, ha, hb', hs⟩ := h
  cases rx
  cases ry
  obtain ⟨mA, J, _⟩ := ins_get I.hok ha
  obtain ⟨mB, J', _⟩ := ins_get I.hok hb'
  obtain ⟨od, J, _⟩ := J.look
  obtain ⟨od', J', _⟩ := J'.look
  obtain ⟨m, hF⟩ := I.fr
  refine PySem.W.binop_K hF I.ok.mod.kin J J'.type o.first o.at_ o.fn ?_
  have r2 : Vals [V.ref a, V.ref b] [Value.ref a, Value.ref b] := .cons rfl (.cons rfl .nil)
  refine wpAny_mono (run_fn F hr hb .nil hx I r2 (by simpa using hs)) (fun w s' hw => ?_) fun _ _ e => e
  obtain ⟨z, H', I', rz, q⟩ := hw
  cases w <;> first | exact ⟨z, H', I', rz, q⟩ | exact (no_ni rz).elim
/-- a power of any size, by the bits of its base -/
theorem op_powB : OpR X (binaryOp .Pow) (rI (fun i j => 0 ≤ j ∧ (Builtin.Int.intBits i : Int) * j ≤ 2 ^ 27) fun i j => .int (i ^ j.toNat)) :=
  opI fun _ _ _ _ _ _ _ hc q => pow_int hc.1 hc.2 q
end
end Q41
set_option maxRecDepth 100000
set_option maxHeartbeats 4000000
/-! Own rules, 2: a dict displayed from another dict and a pair. -/
namespace Q41
open PySem PySem.Spec PyProof.Rows L2
section
variable {prog : Program} {w : World} {A : Around} {E : Value → Shared → Prop} {s : Shared}
/-- dictPut, by the pairs -/
theorem put_pairs {d : Addr} {kvs : List (Key × Value)} {k : Key} {key v : Value} {Q : Unit → Shared → Prop} (hkey : (mixKind prog w).is k key = true) (hm : s.heap.DictOf (mixKind prog w) d kvs)
    (hQ : ∀ h', h'.DictOf (mixKind prog w) d (stored kvs k v) → Heap.SameBut d s.heap h' → Q () { s with heap := h' }) (hsz : kvs.length ≤ sizeLine) :
    wpAny (model prog w) A (dictPut d ((mixKind prog w).hash k) key v) Q E s := by
  obtain ⟨o, es, ep, ho, hc, hd, hk, hp, hn⟩ := hm
  have hes : es.size ≤ sizeLine := by
    have e1 := hp.length
    have e2 : es.toList.length = es.size := by simp
    omega
  have hidx : (es.findIdx? fun e => (mixKind prog w).is k e.key) = kvs.findIdx? fun kv => decide (kv.1 = k) := by
    rw [← hp.findIdx k]
    obtain ⟨l⟩ := es
    simp
  unfold dictPut
  refine wpAny_bind (wpAny_dictFind_of hkey ho hd hk ?_)
  cases hi : es.findIdx? fun e => (mixKind prog w).is k e.key with
  | some i =>
    have hany := any_of_findIdx_some (hidx ▸ hi)
    refine wpAny_updateDict ho hd (hQ _ ⟨_, _, ep, Heap.get?_update_self _ ho (Obj.isFreed_of_dict (Obj.data_mapDict hd _)), hc.mapDict _, Obj.data_mapDict hd _, hk.modify _ _, ?_, ?_⟩ (Heap.SameBut.update ..))
    · rw [stored, if_pos hany]
      have hl : (es.toList.findIdx? fun e => (mixKind prog w).is k e.key) = some i := by
        rw [← hi]
        obtain ⟨l⟩ := es
        simp
      have z := hp.modify hn hl v
      obtain ⟨l⟩ := es
      simpa using z
    · rw [stored, if_pos hany, keys_map_store]
      exact hn
  | none =>
    have hnot := not_mem_of_findIdx_none (hidx ▸ hi)
    have hany : ¬ (kvs.any fun kv => decide (kv.1 = k)) = true := fun z => by
      obtain ⟨kv, h1, h2⟩ := List.any_eq_true.mp z
      exact hnot (List.mem_map.mpr ⟨kv, h1, of_decide_eq_true h2⟩)
    refine wpAny_updateDictKeys (hz := hes) ho hd (hQ _ ⟨_, _, ep + 1, Heap.get?_update_self _ ho (Obj.isFreed_of_dict (Obj.data_mapDictKeys hd _)), hc.mapDictKeys _, Obj.data_mapDictKeys hd _, hk.push hkey _, ?_, ?_⟩ (Heap.SameBut.update ..))
    · rw [stored, if_neg hany]
      have z := hp.append hkey ((mixKind prog w).hash k) v
      obtain ⟨l⟩ := es
      simpa using z
    · rw [stored, if_neg hany, List.map_append, List.nodup_append]
      refine ⟨hn, by simp, fun a ha b hb => ?_⟩
      simp only [List.map_cons, List.map_nil, List.mem_singleton] at hb
      subst hb
      exact fun e => hnot (e ▸ ha)
/-- no key of such a dict is an object -/
theorem key_noref {k : Key} {v : Value} (h : (mixKind prog w).is k v = true) : ∀ a, v ≠ .ref a := by
  intro a e
  subst e
  rcases keyIs_shape (k := k) h with ⟨i, t, _, q⟩ | ⟨x, t, _, q⟩ <;> cases q
/-- all of the dict at o is put into the dict at d -/
theorem merge_map {d o : Addr} {kvs more : List (Key × Value)} {Q : Unit → Shared → Prop} (hdo : d ≠ o) (hoS : (o == sysModules) = false)
    (hd : s.heap.DictOf (mixKind prog w) d kvs) (ho : s.heap.DictOf (mixKind prog w) o more)
    (hQ : ∀ h', h'.DictOf (mixKind prog w) d (merged kvs more) → Heap.SameBut d s.heap h' → Q () { s with heap := h' }) (hsz : kvs.length + more.length ≤ sizeLine) :
    wpAny (model prog w) A (mergeMapping d (.ref o) false) Q E s := by
  obtain ⟨od, esd, epd, hod, hcd, hdd, hkd, hpd, hnd⟩ := id hd
  obtain ⟨oo, eso, epo, hoo, hco, hdo', hko, hpo, hno⟩ := id ho
  have hlen : more.length = eso.size := by
    rw [← hpo.length]
    simp
  unfold mergeMapping
  refine wpAny_bind (wpAny_isInstance ho.typeIs isSubtype_dict_dict ?_)
  dsimp only
  rw [if_pos rfl]
  refine wpAny_bind (wpAny_specialOf ho.typeIs F.slot_dict_iter.lookup ?_)
  refine wpAny_bind (wpAny_pure ?_)
  simp only [beq_self_eq_true]
  rw [if_neg (by rw [hoS]; exact Bool.false_ne_true)]
  refine wpAny_bind (wpAny_dictEntries hod hdd ?_)
  have rest : wpAny (model prog w) A (do
      let size := (← dictEntries o).size
      let epoch ← dictEpoch o
      for i in List.range size do
        let some e := (← dictEntries o)[i]? | unsupported "dict.changed-during-merge"
        holding [e.key, e.val] do
          if false = true then
            if (← dictFind d e.key e.hash).isSome then rule "dict.merge.duplicate-key"; raiseNew (← newExc (.type "KeyError") [e.key])
          dictPut d e.hash e.key e.val
        if (← dictEpoch o) != epoch then unsupported "dict.changed-during-merge") Q E s := by
    refine wpAny_bind (wpAny_dictEntries hoo hdo' ?_)
    refine wpAny_bind (wpAny_dictEpoch hoo hdo' ?_)
    refine wpAny_bind ?_
    rw [List.range_eq_range']
    refine wpAny_forIn_list _
      (fun rest _ s' => ∃ h' i, s' = { s with heap := h' } ∧ rest = List.range' i (eso.size - i) ∧ i ≤ eso.size ∧ h'.DictOf (mixKind prog w) d (merged kvs (more.take i)) ∧ h'.get? o = some oo ∧ Heap.SameBut d s.heap h')
      _ ?_ ?_ _ _ ⟨s.heap, 0, rfl, by simp, Nat.zero_le _, by simpa [merged] using hd, hoo, Heap.SameBut.refl _ _⟩
    · rintro x rest b s' ⟨h', i, rfl, hr, hi, hd', hoo', hs'⟩
      have hlt : i < eso.size := by
        rcases Nat.lt_or_ge i eso.size with h | h
        · exact h
        · rw [Nat.sub_eq_zero_of_le h] at hr
          simp at hr
      obtain ⟨rfl, hrest⟩ : x = i ∧ rest = List.range' (i + 1) (eso.size - (i + 1)) := by
        have e : eso.size - i = (eso.size - (i + 1)) + 1 := by omega
        rw [e, List.range'_succ] at hr
        injection hr with h1 h2
        exact ⟨h1, h2⟩
      refine wpAny_bind (wpAny_dictEntries hoo' hdo' ?_)
      rw [Array.getElem?_eq_getElem hlt]
      obtain ⟨⟨k, v⟩, hkv⟩ : ∃ kv, more[x]? = some kv := ⟨more[x]'(by rw [hlen]; exact hlt), List.getElem?_eq_getElem _⟩
      obtain ⟨hkey, hval⟩ := hpo.get? (e := eso[x]) (by simp [hlt]) hkv
      obtain ⟨k', hkey', hhash⟩ := hko eso[x] (Array.getElem_mem hlt)
      obtain rfl : k' = k := (mixKind prog w).inj _ _ _ hkey' hkey
      dsimp only
      rw [hhash, hval]
      have hmx : (merged kvs (more.take x)).length ≤ sizeLine := by
        have e1 := merged_length_le kvs (more.take x)
        have e2 : (more.take x).length ≤ more.length := by
          rw [List.length_take]
          omega
        omega
      refine wpAny_bind (wpAny_holding ?_)
      rw [if_neg Bool.false_ne_true]
      refine put_pairs hkey hd' (fun h'' hd'' hs'' => ?_) hmx
      have hoo'' : h''.get? o = some oo := (hs''.2 o (Ne.symm hdo)).trans hoo'
      refine wpAny_bind (wpAny_dictEpoch hoo'' hdo' ?_)
      rw [if_neg (by simp)]
      exact wpAny_pure ⟨h'', x + 1, rfl, hrest, hlt, by rw [merged_take_succ kvs more x (k', v) hkv]; exact hd'', hoo'', hs'.trans hs''⟩
    · rintro b s' ⟨h', i, rfl, hr, hi, hd', hoo', hs'⟩
      have hin : i = eso.size := by
        rcases Nat.lt_or_ge i eso.size with h | h
        · have e : eso.size - i = (eso.size - (i + 1)) + 1 := by omega
          rw [e, List.range'_succ] at hr
          exact nomatch hr
        · exact Nat.le_antisymm hi h
      refine wpAny_pure (hQ h' ?_ hs')
      rw [hin, ← hlen, List.take_length] at hd'
      exact hd'
  split
  · refine wpAny_bind (wpAny_dictEntries hoo hdo' ?_)
    refine wpAny_bind ?_
    rw [← Array.forIn_toList]
    refine wpAny_forIn_list _ (fun rest _ s' => s' = s ∧ ∀ e ∈ rest, e ∈ eso.toList) _ ?_ ?_ _ _ ⟨rfl, fun _ h => h⟩
    · rintro e rest b s' ⟨rfl, hm⟩
      have hmem : e ∈ eso := Array.mem_toList_iff.mp (hm e (List.mem_cons_self ..))
      obtain ⟨j, hj, rfl⟩ := Array.getElem_of_mem hmem
      obtain ⟨k', hkey', _⟩ := hko eso[j] (Array.getElem_mem hj)
      have nr := key_noref hkey'
      split
      · rename_i a he
        exact absurd he (nr a)
      · exact wpAny_pure ⟨rfl, fun e he => hm e (List.mem_cons_of_mem _ he)⟩
    · rintro b s' ⟨rfl, _⟩
      exact rest
  · exact rest
end
end Q41
set_option maxRecDepth 100000
set_option maxHeartbeats 4000000
namespace Q41
open PySem PySem.Spec PyProof.Rows L2
section
variable {X : Cx} {e0 k v : Expr} {ta tk tv : TE} {pos : Pos}
/-- a display of another dict's pairs (stars) and one pair more: p the new dict, q the pair's own for the while -/
def tDispS (ta tk tv : TE) : TE := fun σ H Q => ∀ p, H p = none → ta σ (upd H p (.dK [])) fun x H1 => ∃ a kvs, x = .ref a ∧ Rd H1 a (.dK kvs) ∧ H1 p = some (.dK []) ∧ a ≠ p ∧
  ∀ q, (upd H1 p (.dK kvs)) q = none → tk σ (upd (upd H1 p (.dK kvs)) q (.dK [])) fun y H2 => tv σ H2 fun z H3 => ∃ key, y = kV key ∧ H3 q = some (.dK []) ∧ H3 p = some (.dK kvs) ∧ kvs.length < 1000 ∧
    Q (.ref p) (upd (upd H3 q (.dK [(key, z)])) p (.dK (putK kvs key z)))
theorem pe_dispS (h0 : PE X e0 ta) (hk : PE X k tk) (hv : PE X v tv) : PE X (.Dict [none, some k] [e0, v] pos) (tDispS ta tk tv) := by
  refine ⟨fun pins s σ H Q I q => ?_⟩
  rw [arm_eval_Dict]
  refine wpAny_bind (wpAny_standAt ?_)
  show wpAny _ _ (dictDisplay [(none, do let x ← eval e0 X.env; standAt pos; pure x), (some (eval k X.env), do let x ← eval v X.env; standAt pos; pure x)]) _ _ _
  unfold dictDisplay
  simp only [List.forIn_cons, List.forIn_nil]
  have hn := I.hok.fresh (Nat.le_refl s.heap.objs.size)
  generalize hp : s.heap.objs.size = p at hn
  have I1 := I.laid (a := s.heap.objs.size) (o := .dK []) (h' := s.heap.push { cls := .type "dict", data := .dict #[] }) (t' := s.toks) (fun _ _ z => Heap.get?_push_of_some _ z) (Nat.le_refl _) (dk_empty s.heap I.big)
  refine wpAny_bind (wpAny_bind ?_)
  refine wpAny_bind (wpAny_pure ?_)
  dsimp only
  refine wpAny_bind (wpAny_alloc ?_)
  rw [hp] at I1 ⊢
  refine wpAny_bind (wpAny_holding (wpAny_bind (thn (h0.run pins _ σ _ _ I1 (q p hn)) fun xv s1 hx => wpAny_bind (wpAny_standAt (wpAny_pure ?_)))))
  obtain ⟨x, H1, I2, rx, a, kvs, rfl, hrd, hp1, hne, q2⟩ := hx
  cases rx
  obtain ⟨z1, hda, vs, rel, da⟩ := dk_rd I2.hok hrd
  obtain ⟨z2, hdp, vs0, r0, dp⟩ := dk_of I2.hok hp1
  cases r0
  have hnd : (vs.map (·.1)).Nodup := let ⟨_, _, _, _, _, _, _, _, z⟩ := da; z
  have hvl : vs.length ≤ sizeLine := by rw [← rel.length]; exact z1
  refine wpAny_bind (wpAny_onRaise (wpAny_tryCatch (wpAny_onRaise (wpAny_holding (merge_map (Ne.symm hne) hda dp da (fun h' hd' hs' => ?_) (by simpa using hvl))))))
  rw [merged_nil_of_nodup vs hnd] at hd'
  have I3 : Inv X pins σ (upd H1 p (.dK kvs)) { s1 with heap := h' } :=
    d_write (t' := s1.toks) I2 (by rw [hp1]; exact True.intro) hs' (let ⟨o, _, _, ho, _⟩ := hd'; ⟨o, ho⟩) (dk_new z1 hdp rel hd')
  refine wpAny_pure ?_
  dsimp only
  refine wpAny_bind ?_
  rw [if_neg (by simp)]
  refine wpAny_pure ?_
  dsimp only
  refine wpAny_pure ?_
  dsimp only [List.nil_append]
  refine wpAny_bind ?_
  rw [if_neg (by simp)]
  have hn3 := I3.hok.fresh (Nat.le_refl h'.objs.size)
  have I4 := I3.laid (a := h'.objs.size) (o := .dK []) (h' := h'.push { cls := .type "dict", data := .dict #[] }) (t' := s1.toks) (fun _ _ z => Heap.get?_push_of_some _ z) (Nat.le_refl _) (dk_empty h' I3.big)
  refine wpAny_bind (wpAny_holding (wpAny_subDict (knd := mixKind X.prog X.w) (by show 1 ≤ 15; decide) ?_))
  refine evalPairs_cons (thn (hk.run pins _ σ _ _ I4 (q2 _ hn3)) fun kv s2 hkv => ?_)
  obtain ⟨y, H2, I5, ry, q3⟩ := hkv
  refine wpAny_bind (thn (hv.run pins s2 σ _ _ I5 q3) fun vv s3 hvv => wpAny_bind (wpAny_standAt (wpAny_pure ?_)))
  obtain ⟨z, H3, I6, rz, key, rfl, hq3, hp3, hl, qq⟩ := hvv
  refine evalPairs_nil ?_
  obtain ⟨_, hdq, vs0, r0, dq⟩ := dk_of I6.hok hq3
  cases r0
  refine ⟨[(key, vv)], ⟨kV_is ry, rfl, True.intro⟩, dq, fun h2 hd2 hs2 => ?_⟩
  have I7 : Inv X pins σ (upd H3 h'.objs.size (.dK [(key, z)])) { s3 with heap := h2, toks := s3.toks + 1 } :=
    d_write (t' := s3.toks + 1) I6 (by rw [hq3]; exact True.intro) hs2 (let ⟨o, _, _, ho, _⟩ := hd2; ⟨o, ho⟩) (dk_new (by show 1 ≤ sizeLine; decide) hdq (.cons ⟨rfl, rz⟩ .nil) (by simpa [merged, stored] using hd2))
  have hpq : p ≠ h'.objs.size := by
    intro e
    rw [← e] at hn3
    rw [upd_same] at hn3
    cases hn3
  have hp7 : (upd H3 h'.objs.size (.dK [(key, z)])) p = some (.dK kvs) := by
    rw [upd_ne hpq]
    exact hp3
  obtain ⟨z7, hdp7, vs7, rel7, dp7⟩ := dk_of I7.hok hp7
  have hd2' : h2.DictOf (mixKind X.prog X.w) h'.objs.size [(key, vv)] := by simpa [merged, stored] using hd2
  refine wpAny_bind (wpAny_onRaise (wpAny_holding (merge_map hpq hdq dp7 hd2' (fun h3 hd3 hs3 => ?_) (by rw [← rel7.length]; show kvs.length + 1 ≤ sizeLine; rw [sizeLine_eq]; omega))))
  have I8 : Inv X pins σ (upd (upd H3 h'.objs.size (.dK [(key, z)])) p (.dK (putK kvs key z))) { s3 with heap := h3, toks := s3.toks + 1 } :=
    d_write (s := { s3 with heap := h2, toks := s3.toks + 1 }) (t' := s3.toks + 1) I7 (by rw [hp7]; exact True.intro) hs3 (let ⟨o, _, _, ho, _⟩ := hd3; ⟨o, ho⟩) (dk_new (by have e := length_putK kvs key z; rw [sizeLine_eq]; omega) hdp7 (rel7.put key rz) (by simpa [merged] using hd3))
  refine wpAny_pure ?_
  dsimp only
  exact wpAny_pure ⟨.ref p, _, I8, rfl, qq⟩
end
end Q41
set_option maxRecDepth 100000
set_option maxHeartbeats 4000000
/-! Own rules, 4: a call with the pairs of a dict as its keywords. -/
namespace Q41
open PySem PySem.Spec PyProof.Rows L2
section
variable {prog : Program} {w : World} {A : Around} {E : Value → Shared → Prop} {s : Shared}
theorem mix_isStr {k : Key} {v : Value} {x : Str} (h : (mixKind prog w).is k v = true) : v.isStr x = (mixKind prog w).is (.inr x) v := by
  show v.isStr x = Value.isStrOf x v
  cases v <;> rfl
/-- a name is stored in a dict of pairs -/
theorem nsSet_pairs {d : Addr} {kvs : List (Key × Value)} {x : Str} {v : Value} {Q : Unit → Shared → Prop} (hm : s.heap.DictOf (mixKind prog w) d kvs)
    (hQ : ∀ h', h'.DictOf (mixKind prog w) d (stored kvs (.inr x) v) → Heap.SameBut d s.heap h' → Q () { s with heap := h', toks := s.toks + 1 }) :
    wpAny (model prog w) A (nsSet d x v) Q E s := by
  obtain ⟨o, es, ep, ho, hc, hd, hk, hp, hn⟩ := hm
  have hany : es.any (·.refKey) = false := by
    rw [Array.any_eq_false']
    intro e he
    obtain ⟨j, hj, rfl⟩ := Array.getElem_of_mem he
    obtain ⟨k', hk', _⟩ := hk es[j] (Array.getElem_mem hj)
    have nr := key_noref hk'
    unfold DictEntry.refKey
    split
    · rename_i a e
      exact absurd e (nr a)
    · simp
  have hfun : (es.findIdx? fun e => e.key.isStr x) = es.findIdx? fun e => (mixKind prog w).is (.inr x) e.key := by
    congr 1
    funext e
    show e.key.isStr x = Value.isStrOf x e.key
    cases e.key <;> rfl
  have hidx : (es.findIdx? fun e => (mixKind prog w).is (.inr x) e.key) = kvs.findIdx? fun kv => decide (kv.1 = (.inr x : Key)) := by
    rw [← hp.findIdx (.inr x)]
    obtain ⟨l⟩ := es
    simp
  unfold nsSet
  refine wpAny_bind ?_
  unfold strHash
  refine wpAny_bind (wpAny_askSetting (wpAny_pure ?_))
  refine wpAny_bind (wpAny_mkText ?_)
  refine wpAny_bind (wpAny_loadPart (s := { s with toks := s.toks + 1 }) ho ?_)
  rw [hd]
  dsimp only
  rw [aRefKeyMayBeTheName_eq]
  unfold aRefKeyMayBeTheNameByArray
  rw [hany, Bool.and_false, if_neg Bool.false_ne_true]
  refine wpAny_updatePart ho (hQ _ ?_ (Heap.SameBut.update ..))
  obtain ⟨c, dd, dt, sl⟩ := o
  simp only at hd
  subst hd
  have hkey : (mixKind prog w).is (.inr x) (Value.str x s.toks) = true := keyIs_str x s.toks
  cases hi : es.findIdx? fun e => (mixKind prog w).is (.inr x) e.key with
  | some i =>
    have hi' := hi
    rw [← hfun] at hi'
    have hany2 := any_of_findIdx_some (hidx ▸ hi)
    refine ⟨_, _, ep, Heap.get?_update_self _ ho (by simp only [Obj.putName_eq, Obj.putNameByArray, hi']; rfl), ?_, by simp only [Obj.putName_eq, Obj.putNameByArray, hi']; rfl, hk.modify _ _, ?_, ?_⟩
    · simp only [Obj.putName_eq, Obj.putNameByArray, hi']
      exact hc
    · rw [stored, if_pos hany2]
      have hl : (es.toList.findIdx? fun e => (mixKind prog w).is (.inr x) e.key) = some i := by
        rw [← hi]
        obtain ⟨l⟩ := es
        simp
      have z := hp.modify hn hl v
      obtain ⟨l⟩ := es
      simpa using z
    · rw [stored, if_pos hany2, keys_map_store]
      exact hn
  | none =>
    have hi' := hi
    rw [← hfun] at hi'
    have hnot := not_mem_of_findIdx_none (hidx ▸ hi)
    have hno : ¬ (kvs.any fun kv => decide (kv.1 = (.inr x : Key))) = true := fun z => by
      obtain ⟨kv, h1, h2⟩ := List.any_eq_true.mp z
      exact hnot (List.mem_map.mpr ⟨kv, h1, of_decide_eq_true h2⟩)
    refine ⟨_, _, ep + 1, Heap.get?_update_self _ ho (by simp only [Obj.putName_eq, Obj.putNameByArray, hi']; rfl), ?_, by simp only [Obj.putName_eq, Obj.putNameByArray, hi']; rfl, hk.push hkey _, ?_, ?_⟩
    · simp only [Obj.putName_eq, Obj.putNameByArray, hi']
      exact hc
    · rw [stored, if_neg hno]
      have z := hp.append hkey ((mixKind prog w).hash (.inr x)) v
      obtain ⟨l⟩ := es
      simpa using z
    · rw [stored, if_neg hno, List.map_append, List.nodup_append]
      refine ⟨hn, by simp, fun a ha b hb => ?_⟩
      simp only [List.map_cons, List.map_nil, List.mem_singleton] at hb
      subst hb
      exact fun e => hnot (e ▸ ha)
end
end Q41
set_option maxRecDepth 100000
set_option maxHeartbeats 4000000
namespace Q41
open PySem PySem.Spec PyProof.Rows L2
section
variable {prog : Program} {w : World} {A : Around} {E : Value → Shared → Prop} {s : Shared}
/-- names, each with a value: as pairs of a dict -/
def asKeys (kw : List (Str × Value)) : List (Key × Value) := kw.map fun p => (.inr p.1, p.2)
theorem asKeys_nodup {kw : List (Str × Value)} (hn : (kw.map (·.1)).Nodup) : ((asKeys kw).map (·.1)).Nodup := by
  induction kw with
  | nil => exact .nil
  | cons p kw ih =>
    simp only [asKeys, List.map_cons, List.nodup_cons] at hn ⊢
    refine ⟨fun z => hn.1 ?_, ih hn.2⟩
    obtain ⟨q, hq, e⟩ := List.mem_map.mp z
    obtain ⟨r, hr, rfl⟩ := List.mem_map.mp hq
    injection e with e
    exact List.mem_map.mpr ⟨r, hr, e⟩
theorem fill_names {d : Addr} : ∀ (kw : List (Str × Value)) (acc : List (Key × Value)) (s : Shared) (Q : PUnit → Shared → Prop), s.heap.DictOf (mixKind prog w) d acc →
    (∀ h', h'.DictOf (mixKind prog w) d (merged acc (asKeys kw)) → Heap.SameBut d s.heap h' → Q ⟨⟩ { s with heap := h', toks := s.toks + kw.length }) →
    wpAny (model prog w) A (forIn kw PUnit.unit fun (x : Str × Value) (_ : PUnit) => (do nsSet d x.1 x.2; pure (ForInStep.yield PUnit.unit) : Sem (ForInStep PUnit))) Q E s
  | [], acc, s, Q, hm, hQ => by
    rw [List.forIn_nil]
    exact wpAny_pure (by simpa [merged, asKeys] using hQ s.heap (by simpa [merged, asKeys] using hm) (Heap.SameBut.refl _ _))
  | p :: kw, acc, s, Q, hm, hQ => by
    rw [List.forIn_cons]
    refine wpAny_bind (wpAny_bind (nsSet_pairs hm fun h1 hm1 hs1 => wpAny_pure ?_))
    refine fill_names kw (stored acc (.inr p.1) p.2) _ Q hm1 fun h' hm' hs' => ?_
    have z := hQ h' (by simpa [merged, asKeys] using hm') (hs1.trans hs')
    simpa [Nat.add_assoc, Nat.add_comm 1] using z
theorem bind_kw {x qual : Str} {a1 a2 : Arg} {kd : List (Option Expr)} {df : List Expr} {body : List Stmt} {scope : Scope} {kV doc pm cdv ct u : Value} {an : Option Addr} {kw : List (Str × Value)} {Q : List (Str × Value) → Shared → Prop}
    (hne : ∀ p ∈ kw, p.1 ≠ a1.arg) (hz : kw.length ≤ 1000) (hn : (kw.map (·.1)).Nodup) (hb : sysModules < s.heap.objs.size)
    (h : ∀ h', h'.DictOf (mixKind prog w) s.heap.objs.size (asKeys kw) → Heap.SameBut s.heap.objs.size (s.heap.push { cls := .type "dict", data := .dict #[] }) h' → Q [(a1.arg, u), (a2.arg, .ref s.heap.objs.size)] { s with heap := h', toks := s.toks + kw.length }) :
    wpAny (model prog w) A (bindArgs (PySem.W.fnOf x qual ⟨[], [a1], none, [], kd, some a2, df⟩ body scope .none kV doc pm an cdv ct) ⟨[u], kw⟩) Q E s := by
  unfold bindArgs
  simp only [PySem.W.fnOf]
  refine wpAny_bind (wpAny_forIn_list _ (fun rest b s' => s' = s ∧ ∃ done, b = ([(a1.arg, u)], done) ∧ done ++ rest = kw) _ ?_ ?_ _ _ ⟨rfl, [], rfl, rfl⟩)
  · rintro p rest b s' ⟨rfl, done, rfl, hd⟩
    have hp : p.1 ≠ a1.arg := hne p (by rw [← hd]; simp)
    have hc : (List.map (fun x => x.arg) [a1]).contains p.1 = false := by simp [hp]
    have hc2 : (List.map (fun x : Arg => x.arg) []).contains p.1 = false := by simp
    obtain ⟨k, v⟩ := p
    dsimp only at hc hc2 ⊢
    rw [hc, hc2]
    simp only [Bool.or_false, Bool.false_eq_true, if_false, Option.isSome_some, if_true]
    exact wpAny_pure ⟨rfl, done ++ [(k, v)], rfl, by rw [← hd]; simp⟩
  · rintro b s' ⟨rfl, done, rfl, hd⟩
    rw [List.append_nil] at hd
    subst hd
    refine wpAny_bind (m := seqItems? Value.none) (wpAny_pure ?_)
    simp only [List.map_cons, List.map_nil, List.nil_append, List.length_cons, List.length_nil, Option.getD_none, List.drop_nil, Nat.sub_zero, Nat.zero_add]
    rw [if_neg (by simp)]
    rw [if_neg (by simp)]
    refine wpAny_bind ?_
    rw [show (List.drop 1 [a1.arg]).zip ([] : List Value) = [] from rfl, List.forIn_nil]
    refine wpAny_pure ?_
    refine wpAny_bind ?_
    rw [List.forIn_nil]
    refine wpAny_pure ?_
    dsimp only
    rw [if_neg (by simp), if_neg (by rw [sizeLine_eq]; omega)]
    refine wpAny_bind (wpAny_alloc ?_)
    have hm0 : (s'.heap.push { cls := .type "dict", data := .dict #[] }).DictOf (mixKind prog w) s'.heap.objs.size [] := by
      obtain ⟨_, _, vs0, r0, d0⟩ := dk_empty (P := prog) (w := w) (H := fun _ => none) s'.heap hb
      cases r0
      exact d0
    refine wpAny_bind (fill_names done [] _ _ hm0 fun h' hm' hs' => ?_)
    rw [merged_nil_of_nodup _ (asKeys_nodup hn)] at hm'
    refine wpAny_pure ?_
    have z := h h' hm' hs'
    simpa [List.lookup] using z
end
end Q41
set_option maxRecDepth 100000
set_option maxHeartbeats 4000000
namespace Q41
open PySem PySem.Spec PyProof.Rows L2
section
variable {prog : Program} {w : World} {A : Around} {E : Value → Shared → Prop} {s : Shared}
/-- the pairs of the dict at o as the keywords of a call: d is new -/
theorem merge_mapU {d o : Addr} {more : List (Key × Value)} {Q : Unit → Shared → Prop} (hdo : d ≠ o) (hoS : (o == sysModules) = false)
    (hd : s.heap.DictOf (mixKind prog w) d []) (ho : s.heap.DictOf (mixKind prog w) o more)
    (hQ : ∀ h', h'.DictOf (mixKind prog w) d more → Heap.SameBut d s.heap h' → Q () { s with heap := h' }) (hsz : more.length ≤ sizeLine) :
    wpAny (model prog w) A (mergeMapping d (.ref o) true) Q E s := by
  obtain ⟨od, esd, epd, hod, hcd, hdd, hkd, hpd, hnd⟩ := id hd
  obtain ⟨oo, eso, epo, hoo, hco, hdo', hko, hpo, hno⟩ := id ho
  have hlen : more.length = eso.size := by
    rw [← hpo.length]
    simp
  unfold mergeMapping
  refine wpAny_bind (wpAny_isInstance ho.typeIs isSubtype_dict_dict ?_)
  dsimp only
  rw [if_pos rfl]
  refine wpAny_bind (wpAny_specialOf ho.typeIs F.slot_dict_iter.lookup ?_)
  refine wpAny_bind (wpAny_pure ?_)
  simp only [beq_self_eq_true]
  rw [if_neg (by rw [hoS]; exact Bool.false_ne_true)]
  refine wpAny_bind (wpAny_dictEntries hod hdd ?_)
  have rest : wpAny (model prog w) A (do
      let size := (← dictEntries o).size
      let epoch ← dictEpoch o
      for i in List.range size do
        let some e := (← dictEntries o)[i]? | unsupported "dict.changed-during-merge"
        holding [e.key, e.val] do
          if true = true then
            if (← dictFind d e.key e.hash).isSome then rule "dict.merge.duplicate-key"; raiseNew (← newExc (.type "KeyError") [e.key])
          dictPut d e.hash e.key e.val
        if (← dictEpoch o) != epoch then unsupported "dict.changed-during-merge") Q E s := by
    refine wpAny_bind (wpAny_dictEntries hoo hdo' ?_)
    refine wpAny_bind (wpAny_dictEpoch hoo hdo' ?_)
    refine wpAny_bind ?_
    rw [List.range_eq_range']
    refine wpAny_forIn_list _
      (fun rest _ s' => ∃ h' i, s' = { s with heap := h' } ∧ rest = List.range' i (eso.size - i) ∧ i ≤ eso.size ∧ h'.DictOf (mixKind prog w) d (more.take i) ∧ h'.get? o = some oo ∧ Heap.SameBut d s.heap h')
      _ ?_ ?_ _ _ ⟨s.heap, 0, rfl, by simp, Nat.zero_le _, by simpa using hd, hoo, Heap.SameBut.refl _ _⟩
    · rintro x rest b s' ⟨h', i, rfl, hr, hi, hd', hoo', hs'⟩
      have hlt : i < eso.size := by
        rcases Nat.lt_or_ge i eso.size with h | h
        · exact h
        · rw [Nat.sub_eq_zero_of_le h] at hr
          simp at hr
      obtain ⟨rfl, hrest⟩ : x = i ∧ rest = List.range' (i + 1) (eso.size - (i + 1)) := by
        have e : eso.size - i = (eso.size - (i + 1)) + 1 := by omega
        rw [e, List.range'_succ] at hr
        injection hr with h1 h2
        exact ⟨h1, h2⟩
      refine wpAny_bind (wpAny_dictEntries hoo' hdo' ?_)
      rw [Array.getElem?_eq_getElem hlt]
      obtain ⟨⟨k, v⟩, hkv⟩ : ∃ kv, more[x]? = some kv := ⟨more[x]'(by rw [hlen]; exact hlt), List.getElem?_eq_getElem _⟩
      obtain ⟨hkey, hval⟩ := hpo.get? (e := eso[x]) (by simp [hlt]) hkv
      obtain ⟨k', hkey', hhash⟩ := hko eso[x] (Array.getElem_mem hlt)
      obtain rfl : k' = k := (mixKind prog w).inj _ _ _ hkey' hkey
      dsimp only
      rw [hhash, hval]
      have hmx : (more.take x).length ≤ sizeLine := by
        rw [List.length_take]
        omega
      have hfr : k' ∉ (more.take x).map (·.1) := by
        intro z
        have e1 : more.take (x + 1) = more.take x ++ [(k', v)] := by
          rw [List.take_add_one, hkv]
          rfl
        have e2 : ((more.take (x + 1)).map (·.1)).Nodup := by
          rw [List.map_take]
          exact hno.sublist (List.take_sublist _ _)
        rw [e1, List.map_append, List.nodup_append] at e2
        exact e2.2.2 k' z k' (by simp) rfl
      refine wpAny_bind (wpAny_holding ?_)
      rw [if_pos rfl]
      obtain ⟨od', esd', epd', hod', hcd', hdd', hkd', hpd', hnd'⟩ := id hd'
      refine wpAny_bind (wpAny_dictFind_of hkey hod' hdd' hkd' ?_)
      have hz : esd'.findIdx? (fun e => (mixKind prog w).is k' e.key) = none := by
        have e1 := hpd'.findIdx k'
        have e2 : ((more.take x).findIdx? fun kv => decide (kv.1 = k')) = none := by
          rw [List.findIdx?_eq_none_iff]
          intro kv hm
          exact decide_eq_false fun e => hfr (List.mem_map.mpr ⟨kv, hm, e⟩)
        rw [e2] at e1
        obtain ⟨l⟩ := esd'
        simpa using e1
      rw [hz]
      dsimp only [Option.isSome]
      rw [if_neg Bool.false_ne_true]
      refine put_pairs hkey hd' (fun h'' hd'' hs'' => ?_) hmx
      have hoo'' : h''.get? o = some oo := (hs''.2 o (Ne.symm hdo)).trans hoo'
      refine wpAny_bind (wpAny_dictEpoch hoo'' hdo' ?_)
      rw [if_neg (by simp)]
      exact wpAny_pure ⟨h'', x + 1, rfl, hrest, hlt, by
        have e1 : more.take (x + 1) = more.take x ++ [(k', v)] := by
          rw [List.take_add_one, hkv]
          rfl
        have e2 : ¬ ((more.take x).any fun kv => decide (kv.1 = k')) = true := fun z => by
          obtain ⟨kv, h1, h2⟩ := List.any_eq_true.mp z
          exact hfr (List.mem_map.mpr ⟨kv, h1, of_decide_eq_true h2⟩)
        rw [stored, if_neg e2] at hd''
        rw [e1]
        exact hd'', hoo'', hs'.trans hs''⟩
    · rintro b s' ⟨h', i, rfl, hr, hi, hd', hoo', hs'⟩
      have hin : i = eso.size := by
        rcases Nat.lt_or_ge i eso.size with h | h
        · have e : eso.size - i = (eso.size - (i + 1)) + 1 := by omega
          rw [e, List.range'_succ] at hr
          exact nomatch hr
        · exact Nat.le_antisymm hi h
      refine wpAny_pure (hQ h' ?_ hs')
      rw [hin, ← hlen, List.take_length] at hd'
      exact hd'
  split
  · refine wpAny_bind (wpAny_dictEntries hoo hdo' ?_)
    refine wpAny_bind ?_
    rw [← Array.forIn_toList]
    refine wpAny_forIn_list _ (fun rest _ s' => s' = s ∧ ∀ e ∈ rest, e ∈ eso.toList) _ ?_ ?_ _ _ ⟨rfl, fun _ h => h⟩
    · rintro e rest b s' ⟨rfl, hm⟩
      have hmem : e ∈ eso := Array.mem_toList_iff.mp (hm e (List.mem_cons_self ..))
      obtain ⟨j, hj, rfl⟩ := Array.getElem_of_mem hmem
      obtain ⟨k', hkey', _⟩ := hko eso[j] (Array.getElem_mem hj)
      have nr := key_noref hkey'
      split
      · rename_i a he
        exact absurd he (nr a)
      · exact wpAny_pure ⟨rfl, fun e he => hm e (List.mem_cons_of_mem _ he)⟩
    · rintro b s' ⟨rfl, _⟩
      exact rest
  · exact rest
end
end Q41
set_option maxRecDepth 100000
set_option maxHeartbeats 4000000
/-! Own rules, 7: a call of a def of the module with one argument and the pairs of a dict as keywords. -/
namespace Q41
open PySem PySem.Spec PyProof.Rows L2
section
variable {prog : Program} {w : World} {A : Around} {E : Value → Shared → Prop} {s : Shared}
theorem kw_in {f : Value} {d : Addr} {ws : List (Str × Value)} {Q : List (Str × Value) → Shared → Prop} (hd : s.heap.DictOf (mixKind prog w) d (asKeys ws)) (hQ : Q ws s) : wpAny (model prog w) A (keywordsIn f d) Q E s := by
  obtain ⟨o, es, ep, ho, hc, hdd, hk, hp, hn⟩ := id hd
  have hlen : ws.length = es.size := by
    have e := hp.length
    simp [asKeys] at e
    exact e.symm
  unfold keywordsIn
  refine wpAny_bind (wpAny_dictEntries ho hdd ?_)
  refine wpAny_bind ?_
  rw [← Array.forIn_toList]
  refine wpAny_forIn_list _ (fun rest kw s' => s' = s ∧ ∃ i, rest = es.toList.drop i ∧ i ≤ es.size ∧ kw = ws.take i) _ ?_ ?_ _ _ ⟨rfl, 0, by simp, Nat.zero_le _, by simp⟩
  · rintro e rest kw s' ⟨rfl, i, hr, hi, rfl⟩
    have hlt : i < es.size := by
      rcases Nat.lt_or_ge i es.size with h | h
      · exact h
      · rw [List.drop_eq_nil_of_le (by simpa using h)] at hr
        cases hr
    rw [List.drop_eq_getElem_cons (by simpa using hlt)] at hr
    injection hr with h1 h2
    obtain ⟨⟨x, v⟩, hx⟩ : ∃ p, ws[i]? = some p := ⟨ws[i]'(by rw [hlen]; exact hlt), List.getElem?_eq_getElem _⟩
    have hx2 : (asKeys ws)[i]? = some (.inr x, v) := by
      rw [asKeys, List.getElem?_map, hx]
      rfl
    obtain ⟨hkey, hval⟩ := hp.get? (e := es[i]) (by simp [hlt]) hx2
    have he : e = es[i] := by simpa using h1
    rw [he]
    rcases keyIs_shape (k := (.inr x : Key)) hkey with ⟨j, t, q, _⟩ | ⟨y, t, q, e2⟩
    · cases q
    · injection q with q
      subst q
      simp only [e2]
      refine wpAny_pure ⟨rfl, i + 1, h2, hlt, ?_⟩
      rw [List.take_add_one, hx, hval]
      rfl
  · rintro kw s' ⟨rfl, i, hr, hi, rfl⟩
    have hin : i = es.size := by
      rcases Nat.lt_or_ge i es.size with h | h
      · rw [List.drop_eq_getElem_cons (by simpa using h)] at hr
        cases hr
      · omega
    refine wpAny_pure ?_
    rw [hin, ← hlen, List.take_length]
    exact hQ
/-- the keywords of a call are the pairs of the one dict behind ** -/
theorem kw_merged {f : Value} {x : Sem Value} {pos : Pos} {Q : Addr → Shared → Prop}
    (h : wpAny (model prog w) A (alloc { cls := .type "dict", data := .dict #[] }) (fun d s1 => wpAny (model prog w) A x (fun v s2 => ∃ a more, v = .ref a ∧ d ≠ a ∧ (a == sysModules) = false ∧ s2.heap.DictOf (mixKind prog w) d [] ∧ s2.heap.DictOf (mixKind prog w) a more ∧ more.length ≤ sizeLine ∧
      ∀ h', h'.DictOf (mixKind prog w) d more → Heap.SameBut d s2.heap h' → Q d { s2 with heap := h' }) E s1) E s) : wpAny (model prog w) A (mergedKeywords f [(none, do let v ← x; standAt pos; pure v)]) Q E s := by
  unfold mergedKeywords
  refine wpAny_bind (wpAny_mono h (fun d s1 h1 => wpAny_bind (wpAny_holding ?_)) fun _ _ y => y)
  refine wpAny_bind ?_
  rw [List.forIn_cons]
  refine wpAny_bind ?_
  show wpAny _ _ ((pure () : Sem Unit) >>= fun _ => (x >>= fun v => standAt pos >>= fun _ => pure v) >>= fun m => _) _ _ _
  refine wpAny_bind (wpAny_pure ?_)
  refine wpAny_bind (wpAny_bind (wpAny_mono h1 (fun v s2 h2 => wpAny_bind (wpAny_standAt (wpAny_pure ?_))) fun _ _ y => y))
  obtain ⟨a, more, rfl, hda, hsm, hd, ha, hl, hQ⟩ := h2
  refine wpAny_bind (wpAny_onRaise (wpAny_holding (wpAny_tryCatch (wpAny_onRaise (merge_mapU hda hsm hd ha (fun h' hd' hs' => ?_) hl)))))
  refine wpAny_pure ?_
  show wpAny _ _ (forIn [] [] _) _ _ _
  rw [List.forIn_nil]
  refine wpAny_pure ?_
  show wpAny _ _ ((pure () : Sem Unit)) _ _ _
  refine wpAny_pure ?_
  exact wpAny_pure (hQ h' hd' hs')
end
end Q41
set_option maxRecDepth 100000
set_option maxHeartbeats 4000000
namespace Q41
open PySem PySem.Spec PyProof.Rows L2
section
variable {M : Model} {A : Around} {E : Value → Shared → Prop} {s : Shared}
theorem evalArgs_kw {f : Value} {x : Sem Value} {kws : List (Option Str × Sem Value)} {Q : Args → Shared → Prop} (hk : kws.all (·.1.isSome) = false)
    (h : wpAny M A (spliced [(false, x)]) (fun vs s1 => wpAny M A (mergedKeywords f kws) (fun d s2 => wpAny M A (keywordsIn f d) (fun kw s3 => Q ⟨vs, kw⟩ s3) E s2) E s1) E s) : wpAny M A (evalArgs f true [(false, x)] kws) Q E s := by
  unfold evalArgs
  show wpAny M A (spliced [(false, x)] >>= _) Q E s
  refine wpAny_bind (wpAny_mono h (fun vs s' h' => ?_) fun _ _ y => y)
  refine wpAny_holding ?_
  rw [hk]
  show wpAny M A (mergedKeywords f kws >>= _) Q E s'
  refine wpAny_bind (wpAny_mono h' (fun d s2 h2 => ?_) fun _ _ y => y)
  refine wpAny_bind (wpAny_pure ?_)
  exact wpAny_bind (wpAny_holding (wpAny_mono h2 (fun kw s3 h3 => wpAny_pure h3) fun _ _ y => y))
theorem ks_callKw {f : Value} {pos : Pos} {Q : Value → Shared → Prop} {P : Heap → Prop} {args : List (Bool × Sem Value)} {kws : List (Option Str × Sem Value)} (hst : args.any (·.1) = false) (hkn : kws.any (·.1.isNone) = true)
    (hk : ∀ h, P h → ∃ k, (k = Keeper.frame ∨ k = Keeper.machine ∨ k = Keeper.boundFrame) ∧ PySem.W.Looks M h (keeperOf f) k)
    (h : wpAny M A (evalArgs f true args kws) (fun a s₁ => P s₁.heap ∧ wpAny M A (call f a.pos a.kw) Q E s₁) E s) : wpAny M A (callWith pos f [] args kws) Q E s := by
  unfold callWith
  refine wpAny_bind (wpAny_holding (wpAny_mono h (fun a s₁ h₁ => wpAny_bind (wpAny_standAt ?_)) fun _ _ x => x))
  obtain ⟨k, hk', L⟩ := hk _ h₁.1
  simp only [hst, hkn, Bool.or_true]
  refine wpAny_bind (L.here ?_)
  have tail : ∀ {t : Sem Value}, wpAny M A t Q E s₁ → wpAny M A (t >>= fun r => holding [r] point >>= fun _ => pure r) Q E s₁ :=
    fun ht => wpAny_bind (wpAny_mono ht (fun r s₂ hr => wpAny_bind (wpAny_holding (wpAny_point (wpAny_pure hr)))) fun _ _ x => x)
  have marked (mk : Value) : wpAny M A (callMarked mk f ([] ++ a.pos) a.kw) Q E s₁ := by unfold callMarked; exact Calls.wpAny_keep h₁.2
  rcases hk' with rfl | rfl | rfl <;> dsimp only <;> first | exact tail (marked _) | exact tail (wpAny_operating h₁.2)
end
/-- a def called with one argument and keywords: what it promises -/
abbrev SpKw := V → List (Str × V) → Hp → VK → XK → Prop
def asKeysV (ws : List (Str × V)) : List (Key × V) := ws.map fun p => (.inr p.1, p.2)
def KwRel (ws : List (Str × V)) (kw : List (Str × Value)) : Prop := KV (asKeysV ws) (asKeys kw)
def FnKw (P : Program) (w : World) (K : PySem.W.Frag) (mg : Str → Option Value) (base : Heap) (CX : CXT) (k : Nat) (f : Addr) (sp : SpKw) : Prop :=
  ∀ (A : Around) (outer : List Env) (s : Shared) (H : Hp) (u : Value) (kw : List (Str × Value)) (v : V) (ws : List (Str × V)) (Q : VK) (E : XK), Room k A → Env0 P w K mg base A outer s H → L2.RelV v u → KwRel ws kw → sp v ws H Q E →
    codeAny (model P w) A (.call (.ref f) ⟨[u], kw⟩) (CR CX outer P w H s Q E) s
def tKw (sp : SpKw) (E : XK) (te ta : TE) : TE := fun σ H Q => te σ H fun x H1 => ∀ d, H1 d = none → ta σ (upd H1 d (.dK [])) fun y H2 => ∃ a ws, y = .ref a ∧ Rd H2 a (.dK (asKeysV ws)) ∧ H2 d = some (.dK []) ∧ a ≠ d ∧ sp x ws (upd H2 d (.dK (asKeysV ws))) Q E
section
variable {X : Cx} {CX : CXT} {k : Nat} {f : Addr} {sp : SpKw} {E : XK} {x : Str} {e0 e1 : Expr} {te ta : TE} {p p1 pos : Pos}
theorem run_fnKw {pins : List (Addr × Obj)} {σ : L2.St} {H : Hp} {s : Shared} {Q : VK} {u : Value} {v : V} {kw : List (Str × Value)} {ws : List (Str × V)} (F : FnKw X.prog X.w X.K X.mg X.base CX k f sp) (hr : Room k X.A) (hx : Passes CX X E) (I : Inv X pins σ H s) (r : L2.RelV v u) (r2 : KwRel ws kw) (h : sp v ws H Q E) :
    codeAny (model X.prog X.w) X.A (.call (.ref f) ⟨[u], kw⟩) (fun r s' => match r with | .ok (.ret v) => EP X pins σ Q v s' | .ok _ => False | .error e => X.xe e s') s := by
  refine codeAny_mono (F X.A X.stack s H u kw v ws Q E hr I.env0 r r2 h) fun r s' hq => ?_
  cases r with
  | error e => exact hx pins σ H s e s' I hq
  | ok fl =>
    cases fl with
    | ret u => exact I.after hq
    | next => exact False.elim hq
    | brk => exact False.elim hq
    | cont => exact False.elim hq
theorem kwrel_keys : ∀ {ws : List (Str × V)} {vs : List (Key × Value)}, KV (asKeysV ws) vs → ∃ kw, vs = asKeys kw ∧ KwRel ws kw
  | [], vs, r => by
    cases r
    exact ⟨[], rfl, .nil⟩
  | (x, y) :: ws, vs, r => by
    obtain _ | ⟨hd, tl⟩ := (show KV ((.inr x, y) :: asKeysV ws) vs from r)
    rename_i b l2
    obtain ⟨kw, rfl, r2⟩ := kwrel_keys tl
    obtain ⟨k, v⟩ := b
    obtain ⟨e, h2⟩ := hd
    simp only at e h2
    subst e
    exact ⟨(x, v) :: kw, rfl, .cons ⟨rfl, h2⟩ r2⟩
theorem pe_callKw {t : TA} (F : FnKw X.prog X.w X.K X.mg X.base CX k f sp) (hr : Room k X.A) (hk : PySem.W.keepIn X.K (.ref f) = true) (hg : Gl X x) (hm : X.mg x = some (.ref f)) (hx : Passes CX X E) (h0 : PE X e0 te) (h1 : PE X e1 ta)
    (hd : (x == ("__debug__" : Str)) = false := by decide) (he : starEach [e0] X.env = [(false, eval e0 X.env)] := by rfl) : PE X (.Call (.Name x p) [e0] [⟨none, e1, p1⟩] pos) (tKw sp E te ta) := by
  refine ⟨fun pins s σ H Q I h => ?_⟩
  refine wpAny_Call_Name_kw (ld_glob I hg hm ?_ hd)
  rw [he]
  refine ks_callKw (P := X.K.In) rfl rfl (PySem.W.keeps_K hk) ?_
  refine evalArgs_kw rfl ?_
  refine Calls.spliced_cons (thn (h0.run pins s σ H _ I h) fun u s1 ⟨y, H1, I1, ry, q⟩ => Calls.spliced_nil ?_)
  have hn := I1.hok.fresh (Nat.le_refl s1.heap.objs.size)
  have I2 := I1.laid (a := s1.heap.objs.size) (o := .dK []) (h' := s1.heap.push { cls := .type "dict", data := .dict #[] }) (t' := s1.toks) (fun _ _ z => Heap.get?_push_of_some _ z) (Nat.le_refl _) (dk_empty s1.heap I1.big)
  refine kw_merged (wpAny_alloc ?_)
  refine thn (h1.run pins _ σ _ _ I2 (q _ hn)) fun v s2 ⟨z, H2, I3, rz, a, ws, ez, hrd, hd2, hne, hsp⟩ => ?_
  subst ez
  obtain rfl : v = Value.ref a := rz
  obtain ⟨z1, hda, vs, rel, da⟩ := dk_rd I3.hok hrd
  obtain ⟨z2, hdd, vs0, r0, dd⟩ := dk_of I3.hok hd2
  cases r0
  obtain ⟨kw, rfl, r3⟩ := kwrel_keys rel
  refine ⟨a, asKeys kw, rfl, Ne.symm hne, hda, dd, da, by rw [← rel.length]; exact z1, fun h' hd' hs' => ?_⟩
  have I4 : Inv X pins σ (upd H2 s1.heap.objs.size (.dK (asKeysV ws))) { s2 with heap := h' } :=
    d_write (t' := s2.toks) I3 (by rw [hd2]; exact True.intro) hs' (let ⟨o, _, _, ho, _⟩ := hd'; ⟨o, ho⟩) (dk_new z1 hdd rel hd')
  refine kw_in (prog := X.prog) (w := X.w) hd' ⟨I4.kIn, ?_⟩
  exact wpAny_call (run_fnKw F hr hx I4 ry r3 hsp)
end
end Q41
set_option maxRecDepth 100000
set_option maxHeartbeats 4000000
namespace Q41
open PySem PySem.Spec PyProof.Rows L2 StX
section
variable {P : Program} {w : World} {K : PySem.W.Frag} {mg : Str → Option Value} {base : Heap} {A : Around} {outer : List Env} {s : Shared} {H : Hp}
theorem env0_laid2 {h' : Heap} {t' : Nat} {u : HO} (e0 : Env0 P w K mg base A outer s H) (kp : ∀ b x, s.heap.get? b = some x → h'.get? b = some x) (hsz : s.heap.objs.size ≤ h'.objs.size) (new : ObjOk P w (upd H s.heap.objs.size u) h' s.heap.objs.size u) :
    Env0 P w K mg base A outer { s with heap := h', toks := t' } (upd H s.heap.objs.size u) := by
  refine ⟨e0.frames, e0.mod, fun b x e => ⟨kp b x (e0.bs b x e).1, ?_⟩, Nat.le_trans e0.bsz hsz, Heap.FunFrames.of_keeps (fun b x e _ => ⟨x, kp b x e, rfl⟩) e0.funs, fun b hb => ?_, e0.hok.laid kp (Nat.le_refl _) new, e0.bare⟩
  · rw [upd_ne (Nat.ne_of_lt (Heap.lt_size (e0.bs b x e).1))]
    exact (e0.bs b x e).2
  · obtain ⟨_, x, hx, _⟩ := e0.funs.mem hb
    rw [upd_ne (Nat.ne_of_lt (Heap.lt_size hx))]
    exact e0.frf b hb
end
section
variable {CX : CXT} {P : Program} {w : World} {K : PySem.W.Frag} {mg : Str → Option Value} {base : Heap} {k : Nat} {f : Addr} {name qual : Str} {a1 a2 : Arg} {kd : List (Option Expr)} {df : List Expr} {body : List Stmt} {scope : Scope} {kV doc pm cdv ct oc : Value} {an od : Option Addr}
  {osl : Array (Option Value)} {N : List Str} {sp : Sp}
/-- def f(a, **d) -/
theorem fn_kw (lk : K.lookup f = some ⟨oc, od, .func (PySem.W.fnOf name qual ⟨[], [a1], none, [], kd, some a2, df⟩ body scope .none kV doc pm an cdv ct), osl⟩) (hcd : PySem.W.codeIn K cdv qual = true) (S : FnScope N [a1.arg, a2.arg] scope) (hCX : CXUp CX)
    (hbody : ∀ (A : Around) (outer : List Env) (s : Shared) (H : Hp) (vs : List V) (Q : VK) (E : XK), Room k (A.deeper (envOfC qual scope s.heap.objs.size f cdv)) → sp vs H Q E →
      ∃ t, PSs (cxOf CX P w K mg base N qual scope f cdv A outer s H E) body t ∧ t { nx := fun _ H' => Q .non H', rt := Q } (start N vs) H) :
    FnKw P w K mg base CX (k + 1) f (fun v ws H Q E => (∀ p ∈ ws, p.1 ≠ a1.arg) ∧ ws.length ≤ 1000 ∧ (ws.map (·.1)).Nodup ∧ ∀ d, H d = none → sp [v, .ref d] (upd H d (.dK (asKeysV ws))) Q E) := by
  intro A outer s H u kw v ws Q E hr e0 r r2 hsp
  obtain ⟨hne, hz, hn, hq⟩ := hsp
  have hkeys : ∀ {ws : List (Str × V)} {kw : List (Str × Value)}, KwRel ws kw → kw.map (·.1) = ws.map (·.1) := by
    intro ws
    induction ws with
    | nil =>
      intro kw r
      cases kw with
      | nil => rfl
      | cons p kw => cases r
    | cons p ws ih =>
      intro kw r
      cases kw with
      | nil => cases r
      | cons q kw =>
        obtain _ | ⟨hd, tl⟩ := (show KV ((.inr p.1, p.2) :: asKeysV ws) ((.inr q.1, q.2) :: asKeys kw) from r)
        obtain ⟨e, _⟩ := hd
        simp only at e
        injection e with e
        simp [e, ih tl]
  have hk := hkeys r2
  have hl : kw.length = ws.length := by
    have e := congrArg List.length hk
    simpa using e
  have hn0 : H s.heap.objs.size = none := e0.hok.fresh (Nat.le_refl _)
  refine run_bnd lk hcd S hr e0 (G := fun xs H2 => ∃ d, H d = none ∧ xs = [v, .ref d] ∧ H2 = upd H d (.dK (asKeysV ws))) (fun A' Ex Q' h => ?_) fun s2 H2 xs ⟨d, hd, ex, eH⟩ hr' => ?_
  · refine bind_kw ?_ (by rw [hl]; exact hz) (by rw [hk]; exact hn) (env0_big e0) fun h' hd' hs' => ?_
    · intro p hp
      have : p.1 ∈ ws.map (·.1) := by rw [← hk]; exact List.mem_map.mpr ⟨p, hp, rfl⟩
      obtain ⟨q, hq1, e⟩ := List.mem_map.mp this
      rw [← e]
      exact hne q hq1
    · have hext : ∀ b o, s.heap.get? b = some o → h'.get? b = some o := fun b o q => by
        have h1 := Heap.get?_push_of_some ({ cls := .type "dict", data := .dict #[] } : Obj) q
        rw [← h1]
        exact hs'.2 b (Nat.ne_of_lt (Heap.lt_size q))
      have hd2 : (s.heap.objs.size == sysModules) = false := by
        have z := env0_big e0
        exact beq_eq_false_iff_ne.mpr (Nat.ne_of_gt z)
      have new : ObjOk P w (upd H s.heap.objs.size (.dK (asKeysV ws))) h' s.heap.objs.size (.dK (asKeysV ws)) :=
        dk_new (by rw [sizeLine_eq]; simp only [asKeysV, List.length_map]; omega) hd2 r2 hd'
      have hsz : s.heap.objs.size ≤ h'.objs.size := by
        obtain ⟨_, _, _, ho, _⟩ := hd'
        exact Nat.le_of_lt (Heap.lt_size ho)
      have e2 := env0_laid2 (t' := s.toks + kw.length) e0 hext hsz new
      have un := Un.laid (fs := frs outer) (ex := []) (h' := h') (o := .dK (asKeysV ws)) hext (Nat.le_refl _) hn0
      exact h _ _ [v, .ref s.heap.objs.size] [u, .ref s.heap.objs.size] e2 un rfl (fun e s' => hCX outer s H _ _ E e s' un hext rfl) (.cons r (.cons rfl .nil)) rfl ⟨_, hn0, rfl, rfl⟩
  · subst ex eH
    exact hbody A outer s2 _ _ Q E hr' (hq d hd)
end
end Q41
set_option maxRecDepth 100000
set_option maxHeartbeats 4000000
/-! Own rules: sets of texts: add, made of a list, sorted. -/
namespace Q41
open PySem PySem.Spec PyProof.Rows L2
/-- the text of an entry -/
def txE (e : Int × Value) : Str := match e.2 with
  | .str x _ => x
  | _ => Str.empty
def GoodT (w : World) (e : Int × Value) : Prop := ∃ x tk, e.2 = Value.str x tk ∧ e.1 = hashStr w x
/-- at a: a set of just the texts of l -/
def SetT (w : World) (h : Heap) (a : Addr) (l : List Str) : Prop :=
  ∃ o es ep t, h.get? a = some o ∧ o.ExactSet ∧ o.data = .set es ep t ∧ (∀ e ∈ es.toList, GoodT w e) ∧ (es.toList.map txE).Nodup ∧ (∀ x, x ∈ l ↔ x ∈ es.toList.map txE) ∧
    es.size < scanBound ∧ es.size ≤ l.length ∧ t.fits es.size = true ∧ Ris t.place.toList ∧ (w.params.followText "set-order" = true ∨ t.led = true)
section
variable {P : Program} {w : World} {h h' : Heap} {a : Addr} {l l' : List Str}
theorem SetT.at (R : SetT w h a l) (k : ∀ o, h.get? a = some o → h'.get? a = some o) : SetT w h' a l := by
  obtain ⟨o, es, ep, t, ho, r⟩ := R
  exact ⟨o, es, ep, t, k o ho, r⟩
theorem SetT.lt (R : SetT w h a l) : a < h.objs.size := by
  obtain ⟨o, es, ep, t, ho, r⟩ := R
  exact Heap.lt_size ho
theorem SetT.congr (R : SetT w h a l) (e : ∀ x, x ∈ l' ↔ x ∈ l) (hl : l.length ≤ l'.length) : SetT w h a l' := by
  obtain ⟨o, es, ep, t, ho, hex, hd, g, nd, hm, hb, hn, r⟩ := R
  exact ⟨o, es, ep, t, ho, hex, hd, g, nd, fun x => (e x).trans (hm x), hb, Nat.le_trans hn hl, r⟩
theorem SetT.typeIs {s : Shared} (R : SetT w s.heap a l) : s.TypeIs (.ref a) "set" := by
  obtain ⟨o, es, ep, t, ho, hex, _⟩ := R
  exact ⟨o, ho, hex.1⟩
theorem good_el {es : List (Int × Value)} (g : ∀ e ∈ es, GoodT w e) : ElemsOf (strKind P w) es := fun e he => by
  obtain ⟨x, tk, h1, h2⟩ := g e he
  exact ⟨⟨x, by rw [h1]; exact strKind_is P w x tk, h2⟩, by rw [h1]; rfl⟩
theorem good_txt {e : Int × Value} (g : GoodT w e) (x : Str) : (strKind P w).is x e.2 = true ↔ txE e = x := by
  obtain ⟨y, tk, h1, _⟩ := g
  unfold txE
  rw [h1]
  show (Value.isStrOf x (.str y tk) = true) ↔ y = x
  simp [Value.isStrOf]
end
section
variable {P : Program} {w : World} {A : Around} {E : Value → Shared → Prop} {s : Shared} {a : Addr} {l : List Str}
theorem put_at {h : Heap} {o : Obj} {es es' : Array (Int × Value)} {ep : Nat} {t t' : SetTable} (ho : h.get? a = some o) (hd : o.data = .set es ep t) :
    (h.update a (Obj.putSet es' t')).get? a = some { o with data := .set es' (ep + 1) t' } := store_at ho hd
/-- the end of an add: the table is laid down, and laid anew where it is too full -/
theorem tailT {g : Bool → Sem Unit} (hg : ∀ (b : Bool) (s₁ : Shared) (Q' : Unit → Shared → Prop), Q' () s₁ → wpAny (model P w) A (g b) Q' E s₁)
    {o : Obj} {es es1 : Array (Int × Value)} {ep : Nat} {t t2 : SetTable} {l' : List Str} {wd : Bool} {R : Option Bool → Shared → Prop} (ho : s.heap.get? a = some o) (hex : o.ExactSet) (hd : o.data = .set es ep t)
    (g1 : ∀ e ∈ es1.toList, GoodT w e) (nd1 : (es1.toList.map txE).Nodup) (m1 : ∀ x, x ∈ l' ↔ x ∈ es1.toList.map txE) (hb1 : es1.size < scanBound) (hn1 : es1.size ≤ l'.length)
    (hf2 : t2.fits es1.size = true) (hr : Ris t2.place.toList) (hl : w.params.followText "set-order" = true ∨ t2.led = true)
    (hR : ∀ h', Heap.SameBut a s.heap h' → SetT w h' a l' → R (some true) { s with heap := h' }) :
    wpAny (model P w) A (do
      storeSet a es1 t2
      if (!wd && t2.tooFull) = true then do
        g (relayAll t2 es1 (SetTable.grown es1.size)).2.2
        storeSet a (relayAll t2 es1 (SetTable.grown es1.size)).1 (relayAll t2 es1 (SetTable.grown es1.size)).2.1
        pure (some true)
      else pure (some true)) R E s := by
  refine wpAny_bind (wpAny_storeSet_of ho hd ?_ (fits_of_scanBound hb1))
  have o1 := store_at (es' := es1) (t' := t2) ho hd
  have sb := Heap.SameBut.update s.heap a (Obj.putSet es1 t2)
  by_cases c : (!wd && t2.tooFull) = true
  · rw [if_pos c]
    have p := relayAll_perm t2 es1 (SetTable.grown es1.size)
    have f := relayAll_fits t2 es1 (SetTable.grown es1.size)
    have r := relayAll_ris t2 es1 (SetTable.grown es1.size)
    have d := relayAll_led t2 es1 (SetTable.grown es1.size)
    generalize relayAll t2 es1 (SetTable.grown es1.size) = Z at p f r d ⊢
    obtain ⟨es2, t3, gv⟩ := Z
    dsimp only at p f r d ⊢
    have z : es2.size = es1.size := by
      rw [← Array.length_toList, p.length_eq, Array.length_toList]
    refine wpAny_bind (hg _ _ _ (wpAny_bind (wpAny_storeSet_of o1 rfl ?_ (fits_of_scanBound (by rw [z]; exact hb1)))))
    refine wpAny_pure (hR _ (sb.trans (Heap.SameBut.update _ a _)) ⟨_, es2, _, t3, store_at (es' := es2) (t' := t3) o1 rfl, hex, rfl, fun e he => g1 e (p.mem_iff.mp he), (p.map txE).nodup_iff.mpr nd1,
      fun x => (m1 x).trans (p.map txE).mem_iff.symm, by rw [z]; exact hb1, by rw [z]; exact hn1, f, r, ?_⟩)
    rcases hl with q | q
    · exact .inl q
    · exact .inr (by rw [d]; exact q)
  · rw [if_neg c]
    exact wpAny_pure (hR _ sb ⟨_, es1, _, t2, o1, hex, rfl, g1, nd1, m1, hb1, hn1, hf2, hr, hl⟩)
theorem addT_hashed {x : Str} {tk : Tok} {Q : Bool → Shared → Prop} (R : SetT w s.heap a l) (room : l.length + 1 < scanBound)
    (hQ : ∀ b h', Heap.SameBut a s.heap h' → SetT w h' a (x :: l) → Q b { s with heap := h' }) :
    wpAny (model P w) A (setAddHashed a (.str x tk) ((strKind P w).hash x)) Q E s := by
  obtain ⟨o, es, ep, t, ho, hex, hd, g, nd, hm, hb, hn, hf, hr, hl⟩ := R
  have kx : (strKind P w).is x (.str x tk) = true := strKind_is P w x tk
  have sc : (Value.str x tk).scannable = true := rfl
  have el := good_el (P := P) g
  unfold setAddHashed setAddHashedIn
  refine wpAny_holding (wpAny_bind (wpAny_setState_of ho hd hf ?_))
  dsimp only
  rw [byScan_of sc hb el]
  simp only [↓reduceIte]
  unfold setAddByScan
  refine wpAny_bind (wpAny_bind (wpAny_rule (wpAny_bind (wpAny_setScan_of kx ho hd hf el ?_))))
  cases hfi : List.findIdx? (fun e => (strKind P w).is x e.2) es.toList with
  | some j =>
    dsimp only
    obtain ⟨hj, pj, _⟩ := List.findIdx?_eq_some_iff_getElem.mp hfi
    have hx : x ∈ l := (hm x).2 (List.mem_map.mpr ⟨es.toList[j], List.getElem_mem hj, (good_txt (P := P) (g _ (List.getElem_mem hj)) x).1 pj⟩)
    refine wpAny_pure (wpAny_pure (hQ _ s.heap (Heap.SameBut.refl a s.heap) ⟨o, es, ep, t, ho, hex, hd, g, nd, fun y => ?_, hb, Nat.le_succ_of_le hn, hf, hr, hl⟩))
    rw [List.mem_cons, ← hm y]
    exact ⟨fun z => z.elim (fun e => by rw [e]; exact hx) id, .inr⟩
  | none =>
    dsimp only
    have hnx : x ∉ es.toList.map txE := fun z => by
      obtain ⟨e, he, q⟩ := List.mem_map.mp z
      have c := List.findIdx?_eq_none_iff.mp hfi e he
      rw [(good_txt (P := P) (g e he) x).2 q] at c
      cases c
    have gw : ∀ (b : Bool) {s₁ : Shared} {Q' : Unit → Shared → Prop}, Q' () s₁ → wpAny (model P w) A (match b with | true => rule "set.scan.the-table-gave-way" | false => pure ()) Q' E s₁ := fun b s₁ Q' q => by
      cases b with
      | true => exact wpAny_rule q
      | false => exact wpAny_pure q
    have pm := layNew_perm t es ((strKind P w).hash x) (.str x tk)
    have f1 := layNew_fits t es ((strKind P w).hash x) (.str x tk)
    have r1 := layNew_ris t es ((strKind P w).hash x) (.str x tk) hr
    have d1 := layNew_led t es ((strKind P w).hash x) (.str x tk)
    generalize layNew t es ((strKind P w).hash x) (.str x tk) = Z at pm f1 r1 d1 ⊢
    obtain ⟨es1, t1, wd, gv⟩ := Z
    dsimp only at pm f1 r1 d1 ⊢
    rw [Array.toList_push] at pm
    have pc : es1.toList.Perm (((strKind P w).hash x, Value.str x tk) :: es.toList) := pm.trans (List.perm_append_singleton _ _)
    have pk : (es1.toList.map txE).Perm (x :: es.toList.map txE) := pc.map txE
    have g1 : ∀ e ∈ es1.toList, GoodT w e := fun e he => by
      rcases List.mem_cons.mp (pc.mem_iff.mp he) with z | z
      · exact ⟨x, tk, by rw [z], by rw [z]; rfl⟩
      · exact g e z
    have nd1 : (es1.toList.map txE).Nodup := pk.nodup_iff.mpr (List.nodup_cons.mpr ⟨hnx, nd⟩)
    have m1 : ∀ y, y ∈ x :: l ↔ y ∈ es1.toList.map txE := fun y => by
      rw [pk.mem_iff, List.mem_cons, List.mem_cons, hm y]
    have z1 : es1.size = es.size + 1 := by
      rw [← Array.length_toList, pc.length_eq, List.length_cons, Array.length_toList]
    have b1 : es1.size < scanBound := by omega
    have n1 : es1.size ≤ (x :: l).length := by
      rw [List.length_cons]
      omega
    have l1 : w.params.followText "set-order" = true ∨ t1.led = true := by
      rw [d1]
      exact hl
    refine wpAny_bind (gw _ ?_)
    by_cases c : t1.plain = true
    · rw [if_pos c]
      refine wpAny_bind ?_
      rw [hashByValue_scannable 8 sc]
      refine wpAny_pure ?_
      refine tailT (fun b s₁ Q' q => gw b q) ho hex hd g1 nd1 m1 b1 n1 ?_ ?_ ?_ (fun h' sb r => by dsimp only; exact wpAny_pure (hQ _ h' sb r))
      · first | exact f1 | (split <;> first | exact f1 | exact SetTable.fits_plain_off f1)
      · first | exact r1 | (split <;> exact r1)
      · first | exact l1 | (split <;> exact l1)
    · rw [if_neg c]
      refine wpAny_bind (wpAny_pure ?_)
      simp only [↓reduceIte]
      exact tailT (fun b s₁ Q' q => gw b q) ho hex hd g1 nd1 m1 b1 n1 f1 r1 l1 fun h' sb r => by
        dsimp only
        exact wpAny_pure (hQ _ h' sb r)
end
end Q41
set_option maxRecDepth 100000
set_option maxHeartbeats 8000000
namespace Q41
open PySem PySem.Spec PyProof.Rows L2
abbrev newSetO (w : World) : Obj := { cls := .type "set", dict := none, data := .set #[] 0 (.fresh 0 0 (!w.params.followText "set-order")) }
theorem setT_at0 {w : World} {h : Heap} {a : Addr} (ho : h.get? a = some (newSetO w)) : SetT w h a [] := by
  refine ⟨_, #[], 0, _, ho, ⟨rfl, rfl, rfl⟩, rfl, fun e he => by simp at he, by simp, fun k => by simp, by decide, Nat.le_refl 0, by rfl, List.Pairwise.nil, ?_⟩
  show _ ∨ (!w.params.followText "set-order") = true
  cases w.params.followText "set-order" with
  | false => exact .inr rfl
  | true => exact .inl rfl
section
variable {P : Program} {w : World} {A : Around} {E : Value → Shared → Prop} {s : Shared}
/-- the walk that puts a list's texts into the set -/
theorem upd_txts {I : Addr} {fp wr : List Addr} {G : Array GenState → Array GenState → Prop} {n : Nat} {Pv : Nat → Value → Prop} {St : Nat → Shared → Prop} {R : Result → Shared → Prop}
    (W : WalksS P w A.in1 I fp wr G n Pv St) (S : Addr) (hS : S ∉ fp) (xs : List Str) (hn : n = xs.length) (hb : xs.length + 1 < scanBound) (hv : ∀ i v, Pv i v → ∃ x t, xs[i]? = some x ∧ v = .str x t) :
    ∀ (k i : Nat) (s : Shared), n - i = k → i ≤ n → St i s → SetT w s.heap S (xs.take i) →
      (∀ s', Moved (S :: wr) G s s' → SetT w s'.heap S xs → R (.ok (.ret .none)) s') → codeAny (model P w) A (.builtin "set.update.loop" ⟨[.ref S, .ref I], []⟩) R s := by
  have nwr : S ∉ wr := fun h => hS (W.sub _ h)
  have up : ∀ b ∈ wr, b ∈ S :: wr := fun b h => List.mem_cons_of_mem _ h
  intro k
  induction k with
  | zero =>
    intro i s hk hi st T hR
    obtain rfl : i = n := by omega
    refine codeAny_builtin F.entry_set_update_loop ?_
    rw [Around.under_plainId F.plain_set_update_loop _]
    show wpAny _ A.in1 (pyNext (.ref I) >>= _) _ _ s
    refine wpAny_bind (W.done s _ _ st fun s' m => ?_)
    show wpAny _ A.in1 (ret Value.none) _ _ s'
    rw [List.take_of_length_le (by omega)] at T
    exact wpAny_pure (hR s' (m.mono up) (T.at fun o e => m.heap S o nwr e))
  | succ k ih =>
    intro i s hk hi st T hR
    have lt : i < n := by omega
    refine codeAny_builtin F.entry_set_update_loop ?_
    rw [Around.under_plainId F.plain_set_update_loop _]
    show wpAny _ A.in1 (pyNext (.ref I) >>= _) _ _ s
    refine wpAny_bind (W.item i s _ _ lt st fun v s' pv st' m => ?_)
    obtain ⟨x, t, hx, rfl⟩ := hv i v pv
    have T1 : SetT w s'.heap S (xs.take i) := T.at fun o e => m.heap S o nwr e
    show wpAny _ A.in1 (holding [Value.str x t] (setAdd S (.str x t)) >>= _) _ _ s'
    refine wpAny_bind (wpAny_holding ?_)
    unfold setAdd
    refine wpAny_holding (wpAny_bind ((strKind P w).pyHash (k := x) (strKind_is _ _ _ _) ?_))
    refine addT_hashed (s := { s' with toks := s'.toks + 1 }) T1 (by rw [List.length_take]; omega) fun b h' sb T2 => ?_
    have T3 : SetT w h' S (xs.take (i + 1)) := T2.congr (fun y => by rw [List.take_add_one, hx]; simp [or_comm]) (by rw [List.take_add_one, hx]; simp)
    refine wpAny_pure ⟨plainId_quiet F.plain_set_update_loop _, ih (i + 1) _ (by omega) lt (W.frame _ s' _ _ st' (Nat.le_succ _) fun b hb o e => ?_) T3 fun s'' m2 T4 => ?_⟩
    · rw [sb.2 b fun z : b = S => hS (by rw [← z]; exact hb)]
      exact e
    · refine hR s'' (Moved.trans W.gtrans ((m.mono up).then_heap (Nat.le_succ _) fun b o hb e => ?_) m2) T4
      rw [sb.2 b fun z : b = S => hb (by rw [z]; exact List.mem_cons_self)]
      exact e
/-- set(xs) of a list of texts -/
theorem set_of_txts {l : Addr} {items : Array Value} (xs : List Str) {Q : Value → Shared → Prop} (hh : A.handled = none) (hl : s.heap.IsList l items) (hx : StrsAre items.toList xs) (hb : xs.length + 1 < scanBound)
    (h : ∀ (h' : Heap) (tk : Nat), SetT w h' s.heap.objs.size xs → (∀ b o, s.heap.get? b = some o → h'.get? b = some o) → Q (.ref s.heap.objs.size) { s with heap := h', toks := tk }) :
    wpAny (model P w) A (call (.type "set") [.ref l]) Q E s := by
  have hz : items.size = xs.length := by rw [← StrsAre.len_eq hx, Array.length_toList]
  obtain ⟨c, tl, hmro⟩ := F.called_set.mro
  have hmade := F.called_set.made
  have hsub := F.called_set.sub
  refine wpAny_call (codeAny_of_tree ?_)
  show wpAny _ _ (callAny (.type "set") _) _ _ _
  refine wpAny_pure ⟨Code.quiet_builtin _ (by decide +kernel), codeAny_builtin F.entry_type_call ?_⟩
  rw [Around.under_plain (weight_type_call_type "set" [.ref l] []) rfl]
  have h1 := F.called_set.notType
  have h2 := F.called_set.canCreate
  have hct := F.typeCall_set_1 (.ref l)
  repeat (any_goals (first | assumption | wp_step))
  refine codeAny_mono (code_set_led1 (.ref l) (E := E) (Q₁ := fun obj s₁ => obj = .ref s.heap.objs.size ∧ s₁ = { s with heap := s.heap.push (newSetO w) }) ⟨rfl, rfl⟩) fun r s₁ hr => ?_
  cases r with
  | error e => exact hr
  | ok fl =>
    cases fl with
    | ret obj =>
      obtain ⟨rfl, rfl⟩ := hr
      have hS : (s.heap.push (newSetO w)).get? s.heap.objs.size = some (newSetO w) := Heap.get?_push_size _ rfl
      have hT : Shared.TypeIs { s with heap := s.heap.push (newSetO w) } (.ref s.heap.objs.size) "set" := ⟨_, hS, rfl⟩
      have hli := F.called_set.init.lookup
      have hbi := F.called_set.init.bind (.ref s.heap.objs.size)
      repeat (any_goals (first | assumption | wp_step))
      refine codeAny_mono (codeAny_call_builtin (R := wants (fun r s₂ => r = .none ∧ ∃ h' tk, s₂ = { s with heap := h', toks := tk } ∧ SetT w h' s.heap.objs.size xs ∧ (∀ b o, s.heap.get? b = some o → h'.get? b = some o)) E) F.called_set.init.plain F.entry_set_init (check_set_init_1 hT ?_)) fun r₂ s₂ hr₂ => ?_
      · obtain ⟨ol, hol, hcl, nl, hdl⟩ := hl
        obtain ⟨ocls, odict, odata, oslots⟩ := ol
        simp only at hcl hdl
        subst hcl; subst hdl
        have hol' : (s.heap.push (newSetO w)).get? l = some { cls := .type "list", dict := odict, data := .seq items nl, slots := oslots } := Heap.get?_push_of_some _ hol
        have hsls := F.sub_list_set
        have hslf := F.sub_list_frozenset
        have hne : (Value.type "list" == Value.type "dict") = false := by decide
        have hl1 : (s.heap.push (newSetO w)).IsList l items := ⟨_, hol', rfl, nl, rfl⟩
        unfold Builtin.«set.__init__» noKeywords Builtin.Frozenset.updateFrom
        generalize hPI : pyIter = PI
        wp_walk
        subst hPI
        refine wpAny_pyIter_list hl1 ?_
        refine wpAny_bind (wpAny_runValue ?_)
        have hlS : l < s.heap.objs.size := Heap.lt_size hol
        have hh3 : A.in1.in1.in1.handled = none := by simp [hh]
        have nI : l ≠ (s.heap.push (newSetO w)).objs.size := by
          rw [Heap.size_push]
          exact Nat.ne_of_lt (Nat.lt_succ_of_lt hlS)
        have nS : s.heap.objs.size ∉ [(s.heap.push (newSetO w)).objs.size, l] := by
          rw [Heap.size_push]
          simp only [List.mem_cons, List.not_mem_nil, or_false, not_or]
          exact ⟨Nat.ne_of_lt (Nat.lt_succ_self _), Nat.ne_of_gt hlS⟩
        have hval : ∀ (i : Nat) (v : Value), items[i]? = some v → ∃ x t, xs[i]? = some x ∧ v = .str x t := fun i v hv => by
          have hi : i < xs.length := by
            rw [← hz]
            exact (Array.getElem?_eq_some_iff.mp hv).1
          obtain ⟨t, e⟩ := SS.strs_at hx i v (by rw [Array.getElem?_toList]; exact hv)
          refine ⟨xs[i], t, List.getElem?_eq_getElem hi, ?_⟩
          rw [e, List.getD_eq_getElem?_getD, List.getElem?_eq_getElem hi] <;> rfl
        refine upd_txts ((Walks.list hh3 _ l nI items).toS) s.heap.objs.size nS xs hz hb hval (items.size - 0) 0 _ (by omega) (Nat.zero_le _) ⟨⟨_, Heap.get?_push_size _ rfl, rfl, rfl⟩, hl1.push _⟩ (setT_at0 (Heap.get?_push_of_some _ hS)) ?_
        intro s' hm T
        obtain ⟨h', g2, d', tk', os'⟩ := s'
        have eg : g2 = s.gens := hm.gens
        have ed : d' = s.drawn := hm.drawn
        have eo : os' = s.os := hm.os
        subst eg; subst ed; subst eo
        show wpAny _ _ _ _ _ _
        refine wpAny_pure ?_
        show wpAny _ _ (ret Value.none) _ _ _
        refine wpAny_pure ⟨rfl, h', tk', rfl, T, fun b o e => ?_⟩
        have b0 : b < s.heap.objs.size := Heap.lt_size e
        refine hm.heap b o ?_ (Heap.get?_push_of_some _ (Heap.get?_push_of_some _ e))
        rw [Heap.size_push]
        simp only [List.mem_cons, List.not_mem_nil, or_false, not_or]
        exact ⟨Nat.ne_of_lt b0, Nat.ne_of_lt (Nat.lt_succ_of_lt b0)⟩
      · cases r₂ with
        | error e => exact hr₂
        | ok fl₂ =>
          cases fl₂ with
          | ret r =>
            obtain ⟨rfl, h', tk, rfl, T, k'⟩ := hr₂
            repeat (any_goals (first | assumption | wp_step))
            exact h _ _ T k'
          | _ => exact hr₂.elim
    | _ => exact hr.elim
/-- the texts of a list of values -/
theorem txts_of : ∀ (vs : List Value), (∀ v ∈ vs, ∃ x tk, v = Value.str x tk) → StrsAre vs (vs.map fun v => txE (0, v))
  | [], _ => .nil
  | v :: vs, h => by
    obtain ⟨x, tk, rfl⟩ := h v List.mem_cons_self
    exact .cons x tk (txts_of vs fun u hu => h u (List.mem_cons_of_mem _ hu))
/-- sorted(a set of texts) -/
theorem sorted_txts {a : Addr} {l : List Str} {Q : Value → Shared → Prop} (R : SetT w s.heap a l) (hh : A.handled = none) (h64 : l.length < 64)
    (hQ : ∀ s' p (out : Array Value) (c : Nat) (ys : List Str), (∀ b o, s.heap.get? b = some o → s'.heap.get? b = some o) → s'.gens = s.gens → s'.os = s.os → s.heap.objs.size ≤ p →
      s'.heap.get? p = some (seqObj "list" out c) → StrsAre out.toList ys → sortedS ys = true → ys.Nodup → (∀ x, x ∈ ys ↔ x ∈ l) → ys.length ≤ l.length → Q (.ref p) s') :
    wpAny (model P w) A (call (.builtin "sorted") [.ref a]) Q E s := by
  obtain ⟨o, es, ep, t, ho, hex, hd, g, nd, hm, hb, hn, hf, hr, hl⟩ := R
  refine Calls.call_function_entry kind_sorted plain_sorted entry_sorted (args_sorted1 _) ?_
  unfold Builtin.«sorted»
  refine wpAny_bind (m := checkCount "sorted" 1 1 _) (wpAny_pure ?_)
  refine wpAny_bind (collect_set (A := A.in1) hh ⟨o, ho, hex.1, hd⟩ hf hb hr hl fun s1 vs k1 hz g1 o1 pm => ?_)
  have vl : vs.length = es.size := by rw [pm.length_eq, List.length_map, Array.length_toList]
  have hI := txts_of vs fun v hv => by
    obtain ⟨e, he, q⟩ := List.mem_map.mp (pm.mem_iff.mp hv)
    obtain ⟨x, tk, h1, _⟩ := g e he
    exact ⟨x, tk, by rw [← q]; exact h1⟩
  have pk : (vs.map fun v => txE (0, v)).Perm (es.toList.map txE) := by
    have q := pm.map fun v => txE (0, v)
    rw [List.map_map] at q
    exact q
  refine wpAny_bind (wpAny_newList ?_ (by rw [vl, sizeLine_eq]; omega))
  have oL : (s1.heap.push (seqObj "list" vs.toArray 0)).get? s1.heap.objs.size = some (seqObj "list" vs.toArray 0) := Heap.get?_push_size _ rfl
  refine wpAny_bind (wpAny_holding (wpAny_call_entry slot_list_sort ⟨_, oL, rfl⟩ entry_list_sort (list_sort_treeK strKind_oneLt oL hI.keysOf (fun v₁ v₂ rest e => keyKind_strs (by rw [← e]; exact hI)) (by rw [vl]; omega) fun st' hp hs => ⟨_, rfl, ?_⟩) (args_list_sort _)))
  obtain ⟨ys, a1, a2, a3⟩ := sorted_out_str hI hp hs
  generalize (arrOf st').map (·.2) = out at a1 ⊢
  obtain ⟨c, hc⟩ := sortedHeap_at (vs := vs) (out := out) oL
  have pn : ys.Perm (es.toList.map txE) := a2.trans pk
  refine wpAny_pure ⟨_, rfl, hQ _ s1.heap.objs.size out c ys (fun b u e => ?_) g1 o1 hz hc a1 a3 (pn.nodup_iff.mpr nd) (fun x => by rw [pn.mem_iff, ← hm x]) ?_⟩
  · have q := k1 b u e
    have lt := Heap.lt_size q
    show (sortedHeap (s1.heap.push (seqObj "list" vs.toArray 0)) s1.heap.objs.size vs out).get? b = some u
    rw [sortedHeap_old (Nat.ne_of_lt lt) (by rw [size_push']; exact Nat.lt_succ_of_lt lt)]
    exact Heap.get?_push_of_some _ q
  · rw [pn.length_eq, List.length_map, Array.length_toList]
    exact hn
end
end Q41
set_option maxRecDepth 100000
set_option maxHeartbeats 4000000
namespace Q41
open PySem PySem.Spec PyProof.Rows L2
/-- tracked: the set of the texts l at a -/
def SetTO (w : World) (a : Addr) (l : List Str) : HO := .ext fun h => SetT w h a l
theorem setTO_new {w : World} {P : Program} {H : Hp} {h : Heap} {a : Addr} {l : List Str} (R : SetT w h a l) : ObjOk P w H h a (SetTO w a l) := by
  have R' := R
  obtain ⟨o, es, ep, t, ho, _⟩ := R'
  exact ⟨R, ⟨o, ho⟩, fun h1 h2 z k => z.at k⟩
section
variable {X : Cx}
theorem setTO_get {pins : List (Addr × Obj)} {σ : L2.St} {H : Hp} {s : Shared} {a : Addr} {l : List Str} (I : Inv X pins σ H s) (ha : H a = some (SetTO X.w a l)) : SetT X.w s.heap a l :=
  (I.hok a _ ha).1
/-- set(xs), xs a list of texts -/
def rSetT (w : World) (K : PySem.W.Frag) : List V → Hp → VK → Prop := fun vs H Q => ∃ (a : Addr) (l : List Str), vs = [V.ref a] ∧ SqL K H a (l.map V.str) ∧ l.length + 1 < scanBound ∧
  ∀ p, H p = none → Q (.ref p) (upd H p (SetTO w p l))
theorem cr_setT (hc : X.calm = true) : CallR X (.type "set") (rSetT X.w X.K) := by
  intro pins s σ H vs us Q I r h
  obtain ⟨a, l, rfl, hs, hb, q⟩ := h
  obtain ⟨its, rv, hl, _⟩ := I.list hs
  rw [Vals.ref1 r]
  refine set_of_txts l (I.ok.hd hc) hl.isList rv.strs hb fun h' tk T k => ?_
  have hn := I.hok.fresh (Nat.le_refl s.heap.objs.size)
  exact ⟨.ref _, _, I.laid (t' := tk) k (Nat.le_refl _) (setTO_new T), rfl, q _ hn⟩
/-- sorted(s), s a set of texts -/
def rSortT (w : World) : List V → Hp → VK → Prop := fun vs H Q => ∃ (a : Addr) (l : List Str), vs = [V.ref a] ∧ H a = some (SetTO w a l) ∧ l.length < 64 ∧
  ∀ ys p, sortedS ys = true → ys.Nodup → (∀ x, x ∈ ys ↔ x ∈ l) → ys.length ≤ l.length → H p = none → Q (.ref p) (upd H p (.lst (ys.map V.str)))
theorem cr_sortT (hc : X.calm = true) : CallR X (.builtin "sorted") (rSortT X.w) := by
  intro pins s σ H vs us Q I r h
  obtain ⟨a, l, rfl, ha, h64, q⟩ := h
  rw [Vals.ref1 r]
  refine sorted_txts (setTO_get I ha) (I.ok.hd hc) h64 fun s' p out c ys k g o hp hg hi hs hd hm hl => ?_
  have hlen : (ys.map V.str).length ≤ sizeLine := by
    rw [List.length_map, sizeLine_eq]
    omega
  have hn : H p = none := I.hok.fresh hp
  have J := I.call' (s' := s') (ch := []) o (Un.laid (o := .lst (ys.map V.str)) k hp hn) (I.hok.laid k hp ⟨hlen, out.toList, c, vals_of_strs hi, hg⟩) (by rw [g]; exact I.bare) (fun _ z => nomatch z)
  exact ⟨.ref p, _, J, rfl, q ys p hs hd hm hl hn⟩
/-- a text is added -/
theorem addT_ok {pins : List (Addr × Obj)} {σ : L2.St} {H : Hp} {s : Shared} {E : Value → Shared → Prop} {D : Addr} {l : List Str} {x : Str} {v : Value} {Q : Value → Shared → Prop} (I : Inv X pins σ H s) (hD : H D = some (SetTO X.w D l)) (room : l.length + 1 < scanBound)
    (rv : L2.RelV (.str x) v) (h : ∀ s', Inv X pins σ (upd H D (SetTO X.w D (x :: l))) s' → Q .none s') : wpAny (model X.prog X.w) X.A (call (.builtin "set.add") [.ref D, v]) Q E s := by
  obtain ⟨tk, rfl⟩ := rv
  have T := setTO_get I hD
  refine wpAny_call_entry F.slot_set_add T.typeIs F.entry_set_add ?_ (F.args_set_add_2 _ _)
  unfold Builtin.«set.add» Builtin.Frozenset.oneOther
  simp only [List.isEmpty_nil, bind_assoc]
  unfold Builtin.Frozenset.addrOf setAdd
  refine wpAny_bind (wpAny_pure ?_)
  try dsimp only
  refine wpAny_bind (wpAny_pure ?_)
  try dsimp only
  refine wpAny_bind (wpAny_holding (wpAny_bind ((PySem.strKind X.prog X.w).pyHash (strKind_is X.prog X.w x tk) ?_)))
  refine addT_hashed (s := { s with toks := s.toks + 1 }) T room fun b h' sb T' => ?_
  show wpAny _ _ (ret Value.none) _ _ _
  have he : ∃ u, h'.get? D = some u := by
    obtain ⟨o, es, ep, t, ho, _⟩ := T'
    exact ⟨o, ho⟩
  exact wpAny_pure ⟨_, rfl, h _ (I.write (e := D) (t' := s.toks + 1) (by rw [hD]; exact True.intro) (.inl rfl) (fun b u hb hu => (sb.2 b hb).trans hu) he (setTO_new T'))⟩
/-! ### {elt for target in iter if ..}, elt a text -/
def tScT (w : World) (wi : TI) (g : TG) (tt : TT) (te : TE) (vs : List Nat) : TE := fun σ H Q => wi σ H fun J H1 => ∀ D, H1 D = none → ∃ W : Nat → Nat → Hp → Prop, (∃ m, W 0 m (upd H1 D (SetTO w D []))) ∧ ∀ i m H, W i m H →
  (J.stop i H ∧ Q (.ref D) H) ∨ (J.go i H ∧ ∃ Nx : Hp → Prop, (∀ H', Nx H' → ∃ m', m' < m ∧ W (i + 1) m' H') ∧ ∀ x H', J.yld i H x H' → g x (wipe σ vs) H' fun σ2 H2 => wipe σ2 vs = wipe σ vs ∧ tt σ2 H2 fun b H3 =>
    if b = true then te σ2 H3 fun y H4 => ∃ (x : Str) (l : List Str), y = .str x ∧ H4 D = some (SetTO w D l) ∧ l.length + 1 < scanBound ∧ Nx (upd H4 D (SetTO w D (x :: l))) else Nx H3)
abbrev XB (X : Cx) (scope : Scope) (s : Shared) (H : Hp) (C : Addr) (cl : List (Str × Addr)) (fp : List Addr) : Cx := X.blk s H scope (compEnvC scope cl C X.env) fp
theorem pe_scT {elt tg iter : Expr} {ifs : List Expr} {scope : Scope} {own : List (Str × Nat)} {pos : Pos} {wi : TI} {g : TG} {tt : TT} {te : TE} (hc : X.calm = true) (hN : X.N.Nodup) (hi : PI X tg iter wi) (ok : BlkOk X.N X.env.scope scope own)
    (hg : ∀ s H C cl fp, PG (XB X scope s H C cl fp) tg g) (ht : ∀ s H C cl fp, PTs (XB X scope s H C cl fp) ifs tt) (he : ∀ s H C cl fp, PE (XB X scope s H C cl fp) elt te)
    (hs : ∀ x, foldedSetIterable iter X.env x = pure x := by intro _; rfl) : PE X (.SetComp elt [⟨tg, iter, ifs, 0⟩] scope pos) (tScT X.w wi g tt te (own.map (·.2))) := by
  refine ⟨fun pins s σ H Q I h => ?_⟩
  rw [PpSet.eval_SetComp]
  have free : ∀ y ∈ scope.names, y.2 = .free → ∃ c, X.env.cells.lookup y.1 = some c := fun y hy e => (ok.free y hy e).elim (fun k => I.ok.has _ (.inl k)) fun k => I.ok.has _ (.inr k)
  refine wpAny_comprehension_free (use := none) rfl hs (closure_ok free) ok.kind (fun y hy e => by rw [ok.uniq y hy, e]) (thn (hi.run pins s σ H _ I h) fun xv s1 hx => thn hx fun itv s2 h2 => ?_)
  obtain ⟨it, fp, tn, J, H2, rfl, I2, T, st2, f2, q⟩ := h2
  refine PpSet.newSet_ok (newEnv_comp ?_)
  generalize hD : s2.heap.objs.size = D
  have nD : H2 D = none := I2.hok.fresh (Nat.le_of_eq hD)
  obtain ⟨W, ⟨m0, w0⟩, turn⟩ := q D nD
  generalize hs3 : ({ s2 with heap := s2.heap.push (newSetO X.w) } : Shared) = s3
  have e3 : s3.heap = s2.heap.push (newSetO X.w) := by rw [← hs3]
  have I3 : Inv X pins σ (upd H2 D (SetTO X.w D [])) s3 := by
    rw [← hs3]
    refine I2.laid (t' := s2.toks) (fun b o e => Heap.get?_push_of_some _ e) (Nat.le_of_eq hD) ?_
    rw [← hD]
    exact setTO_new (setT_at0 (Heap.get?_push_size _ rfl))
  have f3 : ∀ b ∈ fp, FpOk X pins (upd H2 D (SetTO X.w D [])) b ∧ b < s3.heap.objs.size := fun b hb => by
    obtain ⟨o, e, _⟩ := T.obj _ _ st2 b hb
    have lt := Heap.lt_size e
    refine ⟨⟨?_, (f2 b hb).2⟩, by rw [e3, Heap.size_push]; exact Nat.lt_succ_of_lt lt⟩
    rw [upd_ne (by rw [← hD]; exact Nat.ne_of_lt lt)]
    exact (f2 b hb).1
  have st3 : tn 0 s3.heap := T.keep _ _ _ st2 fun b _ o e => by rw [e3]; exact Heap.get?_push_of_some _ e
  have I4 := block_start I3 ok hN f3
  have pg := hg s3 (upd H2 D (SetTO X.w D [])) s3.heap.objs.size (cellsFrom (s3.heap.objs.size + 1) scope.names (cloFrom X.env.cells scope.names [])) fp
  have pt := ht s3 (upd H2 D (SetTO X.w D [])) s3.heap.objs.size (cellsFrom (s3.heap.objs.size + 1) scope.names (cloFrom X.env.cells scope.names [])) fp
  have pe := he s3 (upd H2 D (SetTO X.w D [])) s3.heap.objs.size (cellsFrom (s3.heap.objs.size + 1) scope.names (cloFrom X.env.cells scope.names [])) fp
  show codeAny _ _ (.compStart (.SetComp elt [⟨tg, iter, ifs, 0⟩] scope pos) 0 (.ref it) (.ref D) (compEnvC scope (cellsFrom (s3.heap.objs.size + 1) scope.names (cloFrom X.env.cells scope.names [])) s3.heap.objs.size X.env))
    (compPost (model X.prog X.w) X.A X.xe none _ (.ref D) s3.heap.objs.size) { s3 with heap := pushCells (s3.heap.push { cls := .type "dict", data := .dict #[] }) scope.names }
  have nfp : ∀ b ∈ fp, (upd H2 D (SetTO X.w D [])) b = none := fun b hb => (f3 b hb).1.1
  unfold XB at pg pt pe
  generalize hce : compEnvC scope (cellsFrom (s3.heap.objs.size + 1) scope.names (cloFrom X.env.cells scope.names [])) s3.heap.objs.size X.env = ce at I4 pg pt pe ⊢
  have cL : ce.locals = s3.heap.objs.size := by
    subst hce
    rfl
  generalize hH3 : upd H2 D (SetTO X.w D []) = H3 at I3 I4 pg pt pe w0 nfp f3
  generalize hs4 : ({ s3 with heap := pushCells (s3.heap.push { cls := .type "dict", data := .dict #[] }) scope.names } : Shared) = s4 at I4 ⊢
  have st4 : tn 0 s4.heap := T.keep _ _ _ st3 fun b _ o e => by
    rw [← hs4]
    exact pushCells_keeps _ _ _ _ (Heap.get?_push_of_some _ e)
  have still : ∀ {σ' : L2.St} {H' : Hp} {s' : Shared}, Inv (X.blk s3 H3 scope ce fp) [] σ' H' s' → (∀ b ∈ fp, H' b = none) → ∀ b ∈ fp, FpOk (X.blk s3 H3 scope ce fp) [] H' b := fun {σ' H' s'} I' hn b hb =>
    ⟨hn b hb, (I'.ok.exf b hb).1, I'.ok.exfs b hb, .inl hb, fun x c e => (I'.ok.exf b hb).2 x c e, fun p hp => absurd (show p ∈ ([] : List (Addr × Obj)) ++ [] from hp) (by simp)⟩
  refine PpSet.codeAny_compStart_set ?_ (T.self X.A 0 _ _ _ st4 ?_)
  all_goals
    refine PpSet.compLoopS_any (fun n s' => ∃ i H', Inv (X.blk s3 H3 scope ce fp) [] (wipe σ (own.map (·.2))) H' s' ∧ tn i s'.heap ∧ (∀ b ∈ fp, H' b = none) ∧ W i n H') ?_ m0 ⟨0, H3, I4, st4, nfp, w0⟩
    rintro n s5 ⟨i, H5, I5, st5, n5, w5⟩
    rcases turn i n H5 w5 with ⟨stop, qq⟩ | ⟨go, Nx, hNx, step⟩
    · refine thnF (T.done (X.blk s3 H3 scope ce fp) rfl rfl rfl hc i [] s5 _ H5 (fun _ _ => False) I5 (still I5 n5) st5 stop) fun r s6 ⟨hr, I6⟩ => ?_
      subst hr
      have I7 : Inv X pins σ H5 s6 := I3.call' (ch := fp) I6.os I6.base I6.hok I6.bare fun b hb => ⟨(f3 b hb).1.2.2.2.1, (f3 b hb).1.2.1, (f3 b hb).1.2.2.2.2.1, (f3 b hb).1.2.2.2.2.2⟩
      have nC : H5 s3.heap.objs.size = none := by
        have z : H5 ce.locals = none := I6.free
        rw [cL] at z
        exact z
      obtain ⟨m, hn, _⟩ := I6.loc
      have hn : s6.heap.Ns ce.locals m := hn
      rw [cL] at hn
      obtain ⟨g0, g1, g2, g3, g4, g5⟩ := I3.fpOk (Nat.le_refl _) nC
      exact ⟨m, hn, fun h'' sb => ⟨.ref D, H5, I7.turned (t' := s6.toks) (fun b o hb e => (sb.2 b hb).trans e) g0 g1 g3 g4 g5, rfl, qq⟩⟩
    · refine thnF (T.item (X.blk s3 H3 scope ce fp) rfl rfl rfl hc i [] s5 _ H5 (fun _ _ => False) I5 (still I5 n5) st5 go) fun r s6 ⟨u, hr, h6⟩ => ?_
      subst hr
      refine thnF h6 fun _ s7 ⟨x, H7, I7, r7, y7, st7, n7⟩ => ?_
      refine thnF (pg.run _ s7 _ H7 x u _ (I7.pinned (still I7 n7) (T.obj _ _ st7)) r7 (step x H7 y7)) fun _ s8 ⟨σ8, H8, I8, hw8, q8⟩ => ?_
      refine thnF (pt.run _ s8 σ8 H8 _ I8 q8) fun b s9 ⟨H9, I9, q9⟩ => ?_
      have fin : ∀ {s' : Shared} {H' : Hp}, Inv (X.blk s3 H3 scope ce fp) ([] ++ pinsAt fp s7.heap) σ8 H' s' → Nx H' → ∃ m, m < n ∧ ∃ i H', Inv (X.blk s3 H3 scope ce fp) [] (wipe σ (own.map (·.2))) H' s' ∧ tn i s'.heap ∧ (∀ b ∈ fp, H' b = none) ∧ W i m H' := fun {s' H'} I' nx => by
        obtain ⟨m', hm, w'⟩ := hNx H' nx
        have kept : ∀ b ∈ fp, ∀ o, s7.heap.get? b = some o → s'.heap.get? b = some o ∧ H' b = none := fun b hb o e =>
          have z := I'.pin (b, o) (List.mem_append_right _ (List.mem_append_right _ (mem_pinsAt hb e)))
          ⟨z.1, z.2.1⟩
        refine ⟨m', hm, i + 1, H', (I'.unpinned (pins := [])).weak (by rw [← hw8, wipe_length]) (fun j v e => ?_), T.keep _ _ _ st7 fun b hb o e => (kept b hb o e).1, fun b hb => ?_, w'⟩
        · rw [← hw8] at e
          exact (wipe_some e).1
        · obtain ⟨o, e, _⟩ := T.obj _ _ st7 b hb
          exact (kept b hb o e).2
      cases b with
      | false =>
        simp only [Bool.false_eq_true, if_false] at q9 ⊢
        exact fin I9 q9
      | true =>
        simp only [if_true] at q9 ⊢
        refine thnF (pe.run _ s9 σ8 H9 _ I9 q9) fun z s10 ⟨yv, H10, I10, r10, x1, l1, ey, hD10, hz10, nx⟩ => ?_
        subst ey
        exact addT_ok (X := X.blk s3 H3 scope ce fp) I10 hD10 hz10 r10 fun s11 I11 => fin I11 nx
/-- over a list that the block leaves as it is -/
theorem scT_list {w : World} {K : PySem.W.Frag} {a : Addr} {xs : List V} {g : TG} {tt : TT} {te : TE} {vs : List Nat} {σ : L2.St} {H1 : Hp} {D : Addr} {Qd : Hp → Prop} (Pv : Nat → Hp → Prop) (h0 : Pv 0 (upd H1 D (SetTO w D []))) (hl : ∀ i H, i ≤ xs.length → Pv i H → SqL K H a xs)
    (hs : ∀ i x H, xs[i]? = some x → Pv i H → g x (wipe σ vs) H fun σ2 H2 => wipe σ2 vs = wipe σ vs ∧ tt σ2 H2 fun b H3 =>
      if b = true then te σ2 H3 fun y H4 => ∃ (x : Str) (l : List Str), y = .str x ∧ H4 D = some (SetTO w D l) ∧ l.length + 1 < scanBound ∧ Pv (i + 1) (upd H4 D (SetTO w D (x :: l))) else Pv (i + 1) H3) (hd : ∀ H, Pv xs.length H → Qd H) :
    ∃ W : Nat → Nat → Hp → Prop, (∃ m, W 0 m (upd H1 D (SetTO w D []))) ∧ ∀ i m H, W i m H →
      ((Itl K a).stop i H ∧ Qd H) ∨ ((Itl K a).go i H ∧ ∃ Nx : Hp → Prop, (∀ H', Nx H' → ∃ m', m' < m ∧ W (i + 1) m' H') ∧ ∀ x H', (Itl K a).yld i H x H' → g x (wipe σ vs) H' fun σ2 H2 => wipe σ2 vs = wipe σ vs ∧ tt σ2 H2 fun b H3 =>
        if b = true then te σ2 H3 fun y H4 => ∃ (x : Str) (l : List Str), y = .str x ∧ H4 D = some (SetTO w D l) ∧ l.length + 1 < scanBound ∧ Nx (upd H4 D (SetTO w D (x :: l))) else Nx H3) := by
  refine ⟨fun i m H => m + i = xs.length ∧ Pv i H, ⟨xs.length, rfl, h0⟩, fun i m H ⟨e, p⟩ => ?_⟩
  have hl' := hl i H (by omega) p
  rcases Nat.lt_or_ge i xs.length with lt | ge
  · right
    refine ⟨⟨xs, xs[i], hl', List.getElem?_eq_getElem lt⟩, Pv (i + 1), fun H' p' => ⟨m - 1, by omega, by omega, p'⟩, fun x H' y => ?_⟩
    obtain ⟨rfl, hx⟩ := y
    exact hs i x H' (hx xs hl') p
  · left
    obtain rfl : i = xs.length := by omega
    exact ⟨⟨xs, hl', Nat.le_refl _⟩, hd H p⟩
end
end Q41
set_option maxRecDepth 100000
set_option maxHeartbeats 2000000
/-! Own rules: a generator whose consumer owns the objects at zs; while it sleeps they may change in any way. The items handed out are told ahead: out. -/
namespace Q41
open PySem PySem.Spec PyProof.Rows L2 GenW

/-- the consumer's turn -/
structure Doze (zs : List Addr) (s s' : Shared) : Prop where
  os : s'.os = s.os
  bare : AllBare s'.gens
  rest : ∀ b o, b ∉ zs → s.heap.get? b = some o → s'.heap.get? b = some o
  mine : ∀ b ∈ zs, ∃ o, s'.heap.get? b = some o ∧ ∀ v, o.data ≠ .cell v
/-- running; s₀: the state at which it was woken -/
def Wk (X : Cx) (zs : List Addr) (ip : List (Addr × Obj)) (σ : L2.St) (H : Hp) (s₀ s : Shared) : Prop :=
  ∃ ps : List (Addr × Obj), ps.map (·.1) = zs ∧ (∀ p ∈ ps, s₀.heap.get? p.1 = some p.2) ∧ Inv X (ps ++ ip) σ H s
theorem Wk.same {X : Cx} {zs : List Addr} {ip : List (Addr × Obj)} {σ : L2.St} {H : Hp} {s₀ s : Shared} (h : Wk X zs ip σ H s₀ s) : ∀ b ∈ zs, H b = none ∧ ∃ o, s₀.heap.get? b = some o ∧ s.heap.get? b = some o := by
  obtain ⟨ps, e, k, I⟩ := h
  intro b hb
  rw [← e] at hb
  obtain ⟨p, hp, rfl⟩ := List.mem_map.mp hb
  obtain ⟨h1, h2, _⟩ := I.pin p (List.mem_append_right _ (List.mem_append_left _ hp))
  exact ⟨h2, p.2, k p hp, h1⟩
theorem assoc_of {h : Heap} : ∀ {zs : List Addr}, (∀ b ∈ zs, ∃ o, h.get? b = some o ∧ ∀ v, o.data ≠ .cell v) → ∃ ps : List (Addr × Obj), ps.map (·.1) = zs ∧ ∀ p ∈ ps, h.get? p.1 = some p.2 ∧ ∀ v, p.2.data ≠ .cell v
  | [], _ => ⟨[], rfl, fun p hp => nomatch hp⟩
  | b :: zs, k => by
    obtain ⟨ps, e, r⟩ := assoc_of (zs := zs) fun c hc => k c (List.mem_cons_of_mem _ hc)
    obtain ⟨o, ho, hd⟩ := k b List.mem_cons_self
    refine ⟨(b, o) :: ps, by rw [List.map_cons, e], fun p hp => ?_⟩
    rcases List.mem_cons.mp hp with rfl | hp
    · exact ⟨ho, hd⟩
    · exact r p hp
theorem Wk.woken {X : Cx} {zs : List Addr} {ip : List (Addr × Obj)} {σ : L2.St} {H : Hp} {s₀ s s' : Shared} (hpn : ∀ p ∈ X.pn, p.1 ∉ zs) (hip : ∀ p ∈ ip, p.1 ∉ zs) (hA : ∀ b ∈ zs, Apart X b) (h : Wk X zs ip σ H s₀ s) (z : Doze zs s s') : Wk X zs ip σ H s' s' := by
  have hz := h.same
  obtain ⟨ps, e, k, I⟩ := h
  have hfr : ∀ b ∈ zs, b ≠ X.env.locals ∧ b ∉ X.fs := fun b hb => by
    rw [← e] at hb
    obtain ⟨p, hp, rfl⟩ := List.mem_map.mp hb
    obtain ⟨_, _, h3, h4, _⟩ := I.pin p (List.mem_append_right _ (List.mem_append_left _ hp))
    exact ⟨h3, h4⟩
  have I0 : Inv X ip σ H s := I.pins_of fun p hp => I.pin p (List.mem_append_right _ (List.mem_append_right _ hp))
  obtain ⟨qs, eq, kq⟩ := assoc_of z.mine
  obtain ⟨z1, z2, z3, _⟩ := z
  obtain ⟨hh, g, d, t, o⟩ := s'
  have ho : o = s.os := z1
  subst ho
  have J : Inv X ip σ H { s with heap := hh, gens := g, drawn := d, toks := t } := by
    refine I0.step (g' := g) (t' := t) (d' := d) (ch := zs) (fun b hb => ?_) (fun b ob _ _ hc q _ => z3 b ob hc q) (fun b ob _ _ hc q _ => ⟨ob.slots, z3 b ob hc q⟩) (fun _ _ _ _ n => n) (fun b ob hc q => ⟨ob, z3 b ob hc q⟩)
      (fun _ _ q => q) (fun _ _ _ q => q) (fun b qs q => ⟨#[], by rw [q]; simp⟩) (fun m hm => ?_) (fun b u q => ?_) z2
    · obtain ⟨a1, a2, a3⟩ := hA b hb
      refine ⟨.inr a1, a2, a3, fun p hp => ?_⟩
      rcases List.mem_append.mp hp with hp | hp
      · exact fun e => hpn p hp (e ▸ hb)
      · exact fun e => hip p hp (e ▸ hb)
    · obtain ⟨ob, es, ep, ho, r⟩ := hm
      exact ⟨ob, es, ep, z3 _ ob (fun w => (hfr _ w).1 rfl) ho, r⟩
    · refine (I0.hok b u q).stay (fun c v hc y => z3 c v (fun w => ?_) y) (fun _ y => y) fun _ _ y => y
      have n := (hz c w).1
      rcases hc with y | y
      · rw [y, q] at n
        cases n
      · rw [y] at n
        cases n
  refine ⟨qs, eq, fun p hp => (kq p hp).1, J.pins_of fun p hp => ?_⟩
  rcases List.mem_append.mp hp with hp | hp
  · have hb : p.1 ∈ zs := by
      rw [← eq]
      exact List.mem_map.mpr ⟨p, hp, rfl⟩
    exact ⟨(kq p hp).1, (hz _ hb).1, (hfr _ hb).1, (hfr _ hb).2, (kq p hp).2⟩
  · exact J.pin p (List.mem_append_right _ hp)

/-! ### what is told at an item, at the end -/
def Give (X : Cx) (zs : List Addr) (out : List V) : Protocol := fun n s₀ v s kap =>
  ∃ j x ip σ H, n + 1 + j = out.length ∧ out[j]? = some x ∧ RelV x v ∧ Wk X zs ip σ H s₀ s ∧ ∀ s', Doze zs s s' → kap (.send .none) s'
def Quit (X : Cx) (zs : List Addr) (out : List V) (Q : Nat → VK) : GenEnd := fun n s₀ r s => match r with
  | .ok (.ret u) => ∃ j v ip σ H, n + j = out.length ∧ Wk X zs ip σ H s₀ s ∧ RelV v u ∧ Q j v H
  | _ => False
/-- what is wanted behind a statement; the number: how many are out -/
structure JEnds where
  nx : Nat → L2.St → Hp → Prop
  rt : Nat → VK
  bk : Nat → L2.St → Hp → Prop := fun _ _ _ => False
  ct : Nat → L2.St → Hp → Prop := fun _ _ _ => False
abbrev TJ := JEnds → Nat → L2.St → Hp → Prop
def JEnds.at (D : JEnds) (j : Nat) : Ends := { nx := D.nx j, rt := D.rt j, bk := D.bk j, ct := D.ct j }
def JSP (X : Cx) (zs : List Addr) (ip : List (Addr × Obj)) (D : JEnds) (j : Nat) (f : Flow) (s₀ s : Shared) : Prop :=
  match f with
  | .next => ∃ σ H, Wk X zs ip σ H s₀ s ∧ D.nx j σ H
  | .brk => ∃ σ H, Wk X zs ip σ H s₀ s ∧ D.bk j σ H
  | .cont => ∃ σ H, Wk X zs ip σ H s₀ s ∧ D.ct j σ H
  | .ret u => ∃ v σ H, Wk X zs ip σ H s₀ s ∧ RelV v u ∧ D.rt j v H
structure Post (X : Cx) (zs : List Addr) (ip : List (Addr × Obj)) (A : Around) (c : Code) (fs : List Frame) (gd : Bool → Bool) : Prop where
  pn : ∀ p ∈ X.pn, p.1 ∉ zs
  ip : ∀ p ∈ ip, p.1 ∉ zs
  apart : ∀ b ∈ zs, Apart X b
  over : A.over c fs = X.A
  split : splitAtGen fs = none
  guard : fs.any Frame.guarded = false
  gd : gd false = false
structure Onw (X : Cx) (zs : List Addr) (out : List V) (ip : List (Addr × Obj)) (A : Around) (R : GenEnd) (c : Code) (fs : List Frame) (K : Flow → Sem PySem.Fin) (J : Value → Sem PySem.Fin) (D : JEnds) : Prop where
  ok : ∀ (n j : Nat) (s₀ s : Shared) (f : Flow), n + j = out.length → JSP X zs ip D j f s₀ s → Seg (model X.prog X.w) A R (Give X zs out) n s₀ c (K f) fs s
  exc : ∀ (n : Nat) (s₀ : Shared) (e : Value) (s : Shared), X.xe e s → Seg (model X.prog X.w) A R (Give X zs out) n s₀ c (J e) fs s
structure JS (X : Cx) (st : Stmt) (out : List V) (t : TJ) : Prop where
  run : ∀ (A : Around) (zs : List Addr) (ip : List (Addr × Obj)) (R : GenEnd) (n j : Nat) (s₀ : Shared) (c : Code) (fs : List Frame) (K : Flow → Sem PySem.Fin) (J : Value → Sem PySem.Fin) (gd : Bool → Bool) (lv : List Value → List Value) (s : Shared) (σ : L2.St) (H : Hp) (D : JEnds),
    Post X zs ip A c fs gd → n + j = out.length → Onw X zs out ip A R c fs K J D → Wk X zs ip σ H s₀ s → t D j σ H →
    Seg (model X.prog X.w) A R (Give X zs out) n s₀ c ((exec st X.env).wrap K J gd lv) fs s
structure JSs (X : Cx) (st : List Stmt) (out : List V) (t : TJ) : Prop where
  run : ∀ (A : Around) (zs : List Addr) (ip : List (Addr × Obj)) (R : GenEnd) (n j : Nat) (s₀ : Shared) (c : Code) (fs : List Frame) (K : Flow → Sem PySem.Fin) (J : Value → Sem PySem.Fin) (gd : Bool → Bool) (lv : List Value → List Value) (s : Shared) (σ : L2.St) (H : Hp) (D : JEnds),
    Post X zs ip A c fs gd → n + j = out.length → Onw X zs out ip A R c fs K J D → Wk X zs ip σ H s₀ s → t D j σ H →
    Seg (model X.prog X.w) A R (Give X zs out) n s₀ c ((execs st X.env).wrap K J gd lv) fs s
section
variable {X : Cx} {st : Stmt} {rest : List Stmt} {out : List V}
def jPlain (t : TS) : TJ := fun D j σ H => t (D.at j) σ H
theorem jsp_of {zs : List Addr} {ps ip : List (Addr × Obj)} {s₀ s : Shared} {D : JEnds} {j : Nat} {f : Flow} (e : ps.map (·.1) = zs) (k : ∀ p ∈ ps, s₀.heap.get? p.1 = some p.2) (h : SP X (ps ++ ip) (D.at j) f s) : JSP X zs ip D j f s₀ s := by
  cases f with
  | next => obtain ⟨σ, H, I, q⟩ := h; exact ⟨σ, H, ⟨ps, e, k, I⟩, q⟩
  | brk => obtain ⟨σ, H, I, q⟩ := h; exact ⟨σ, H, ⟨ps, e, k, I⟩, q⟩
  | cont => obtain ⟨σ, H, I, q⟩ := h; exact ⟨σ, H, ⟨ps, e, k, I⟩, q⟩
  | ret u => obtain ⟨v, σ, H, I, r1, q⟩ := h; exact ⟨v, σ, H, ⟨ps, e, k, I⟩, r1, q⟩
theorem js_ps {t : TS} (h : PS X st t) : JS X st out (jPlain t) := by
  refine ⟨fun A zs ip R n j s₀ c fs K J gd lv s σ H D g hn k ⟨ps, e, kp, I⟩ ht => seg_wrap ?_⟩
  rw [g.over]
  exact wpAny_mono (h.run (ps ++ ip) s σ H (D.at j) I ht) (fun f s' hs => k.ok n j s₀ s' f hn (jsp_of e kp hs)) fun x s' hx => k.exc n s₀ x s' hx
def jThen (t u : TJ) : TJ := fun D j σ H => t { D with nx := fun j' σ' H' => u D j' σ' H' } j σ H
theorem jss_nil : JSs X [] out (fun D j σ H => D.nx j σ H) :=
  ⟨fun A zs ip R n j s₀ c fs K J gd lv s σ H D g hn k hI ht => seg_execs_nil (k.ok n j s₀ s .next hn ⟨σ, H, hI, ht⟩)⟩
theorem jss_cons {t u : TJ} (a : JS X st out t) (b : JSs X rest out u) : JSs X (st :: rest) out (jThen t u) := by
  refine ⟨fun A zs ip R n j s₀ c fs K J gd lv s σ H D g hn k hI ht => seg_execs_cons ?_⟩
  refine a.run A zs ip R n j s₀ c fs _ J gd lv s σ H _ g hn ⟨fun n1 j1 s1 s2 f hn1 hs => ?_, k.exc⟩ hI ht
  cases f with
  | next =>
    obtain ⟨σ1, H1, I1, q⟩ := hs
    exact b.run A zs ip R n1 j1 s1 c fs K J gd lv s2 σ1 H1 D g hn1 k I1 q
  | brk => exact k.ok n1 j1 s1 s2 .brk hn1 hs
  | cont => exact k.ok n1 j1 s1 s2 .cont hn1 hs
  | ret u => exact k.ok n1 j1 s1 s2 (.ret u) hn1 hs
/-- yield e -/
def jYield (out : List V) (te : TE) : TJ := fun D j σ H => j < out.length ∧ te σ H fun x H1 => out[j]? = some x ∧ D.nx (j + 1) σ H1
theorem js_yield {e : Expr} {yp pos : Pos} {te : TE} (he : PE X e te) (hco : X.env.scope.isCoroutine = false := by rfl) (hi : interactive X.env = false := by rfl) : JS X (.Expr (.Yield (some e) yp) pos) out (jYield out te) := by
  refine ⟨fun A zs ip R n j s₀ c fs K J gd lv s σ H D g hn k ⟨ps, e, kp, I⟩ ht => ?_⟩
  obtain ⟨hj, ht⟩ := ht
  obtain ⟨m, rfl⟩ : ∃ m, n = m + 1 := ⟨n - 1, by omega⟩
  refine seg_Expr_Yield g.split g.gd g.guard ?_ hco hi
  rw [g.over]
  refine wpAny_mono (he.run (ps ++ ip) s σ H _ I ht) (fun v s1 hv => ?_) fun x s1 hx => k.exc _ s₀ x s1 hx
  obtain ⟨x, H1, I1, rv, hx, q⟩ := hv
  have W1 : Wk X zs ip σ H1 s₀ s1 := ⟨ps, e, kp, I1⟩
  intro kap hk
  refine ⟨j, x, ip, σ, H1, hn, hx, rv, W1, fun s2 z => hk .none s2 ?_⟩
  exact k.ok m (j + 1) s2 s2 .next (by omega) ⟨σ, H1, W1.woken g.pn g.ip g.apart z, q⟩
/-- while -/
def jWhile (c : TT) (tb : TJ) : TJ := fun D j σ H => ∃ W : Nat → Nat → L2.St → Hp → Prop, (∃ m, W m j σ H) ∧ ∀ m j σ H, W m j σ H →
  c σ H fun b H1 => if b = true then ∃ N : Nat → L2.St → Hp → Prop, (∀ j1 σ1 H2, N j1 σ1 H2 → ∃ m1, m1 < m ∧ W m1 j1 σ1 H2) ∧ tb { D with nx := N, ct := N, bk := D.nx } j σ H1 else D.nx j σ H1
theorem post_loop {zs : List Addr} {ip : List (Addr × Obj)} {A : Around} {c c' : Code} {fs : List Frame} {gd : Bool → Bool} {k : Result → Sem PySem.Fin} {l kp : List Value} {p : Pos} (g : Post X zs ip A c fs gd) (hw : c'.weight = 0) (hu : c'.cUnits = 0) :
    Post X zs ip A c' (.ret k none (gd false) l c p kp :: fs) id := by
  refine ⟨g.pn, g.ip, g.apart, (over_loop hw hu).trans g.over, ?_, ?_, rfl⟩
  · show (splitAtGen fs).map _ = none
    rw [g.split] <;> rfl
  · show (gd false || fs.any Frame.guarded) = false
    rw [g.gd, g.guard] <;> rfl
theorem seg_back {zs : List Addr} {ip : List (Addr × Obj)} {A : Around} {R : GenEnd} {c : Code} {fs : List Frame} {K : Flow → Sem PySem.Fin} {J : Value → Sem PySem.Fin} {gd : Bool → Bool} {lv : List Value → List Value} {D : JEnds} {n : Nat} {s₀ s : Shared} {e : Value}
    (g : Post X zs ip A c fs gd) (k : Onw X zs out ip A R c fs K J D) (h : cameBackBy (model X.prog X.w) X.A X.env X.xe e s) :
    Seg (model X.prog X.w) A R (Give X zs out) n s₀ c (((Sem.raise e : Sem Flow).onRaise (cameBack X.env)).wrap K J gd lv) fs s := by
  show Seg _ _ _ _ _ _ _ (((cameBack X.env e).bind fun _ => (Sem.raise e : Sem Flow)).wrap K J gd lv) _ _
  rw [Sem.bind_eq_wrap, Sem.wrap_wrap]
  refine seg_wrap ?_
  rw [g.over]
  exact wpAny_mono h (fun _ s1 hx => k.exc n s₀ e s1 hx) fun x s1 hx => k.exc n s₀ x s1 hx
theorem js_while {test : Expr} {body : List Stmt} {pos : Pos} {tc : TT} {tb : TJ} (hp : PassesOwn (model X.prog X.w) X.A X.env X.xe) (hc : PT X test tc) (hb : JSs X body out tb) : JS X (.While test body [] pos) out (jWhile tc tb) := by
  refine ⟨fun A zs ip R n j s₀ c fs K J gd lv s σ H D g hn k hI ht => ?_⟩
  obtain ⟨W, ⟨m0, w0⟩, turn⟩ := ht
  refine seg_While fun p => ?_
  have gl := fun (kk : Result → Sem PySem.Fin) => post_loop (k := kk) (c' := .whileLoop test body [] X.env) (l := lv []) (kp := []) (p := p) g rfl rfl
  generalize hkk : (fun r : Result => ((match r with | .ok f => (.pure f : Sem Flow) | .error e => .raise e).onRaise (cameBack X.env)).wrap K J gd lv) = kk
  have leaf_ok : ∀ (n : Nat) (s₀ s : Shared) (f : Flow), Seg (model X.prog X.w) A R (Give X zs out) n s₀ c (K f) fs s → Seg (model X.prog X.w) A R (Give X zs out) n s₀ (.whileLoop test body [] X.env) (.pure (.done f)) (.ret kk none (gd false) (lv []) c p [] :: fs) s := fun n s₀ s f h =>
    seg_leaf (.ok f) (by rw [← hkk]; exact h)
  have exc : ∀ (n : Nat) (s₀ : Shared) (x : Value) (s1 : Shared), X.xe x s1 → Seg (model X.prog X.w) A R (Give X zs out) n s₀ (.whileLoop test body [] X.env)
      ((do noteFrame x X.env; theTreesLotGoes x : Sem Unit).wrap (fun _ => .raise x) .raise id id) (.ret kk none (gd false) (lv []) c p [] :: fs) s1 := fun n s₀ x s1 hx => by
    refine seg_wrap ?_
    rw [(gl _).over]
    refine wpAny_bind (wpAny_mono (hp x s1 hx) (fun _ s2 hcb => wpAny_theTreesLotGoes ?_) fun y s2 hcb => ?_)
    · exact seg_leaf (.error x) (by rw [← hkk]; exact seg_back g k hcb)
    · exact seg_leaf (.error y) (by rw [← hkk]; exact seg_back g k hcb)
  suffices loop : ∀ (m n j : Nat) (s₀ s : Shared) (σ : L2.St) (H : Hp), n + j = out.length → W m j σ H → Wk X zs ip σ H s₀ s →
      Seg (model X.prog X.w) A R (Give X zs out) n s₀ (.whileLoop test body [] X.env) ((model X.prog X.w).den (.whileLoop test body [] X.env)) (.ret kk none (gd false) (lv []) c p [] :: fs) s by
    have z := loop m0 n j s₀ s σ H hn w0 hI
    rw [← hkk] at z
    exact z
  intro m
  induction m using Nat.strongRecOn with
  | ind m ih =>
    intro n j s₀ s σ H hn w hI
    obtain ⟨ps, e, kp, I⟩ := hI
    refine seg_whileLoop ?_
    rw [(gl _).over]
    refine wpAny_mono (hc.run _ s σ H _ I (turn m j σ H w)) (fun b s1 hb1 => ?_) fun x s1 hx => exc n s₀ x s1 hx
    obtain ⟨H2, I2, q2⟩ := hb1
    by_cases hbt : b = true
    · subst hbt
      rw [if_pos rfl] at q2 ⊢
      obtain ⟨N, hN, q2⟩ := q2
      have again : ∀ (n1 j1 : Nat) (s2 s3 : Shared), n1 + j1 = out.length → (∃ σ3 H3, Wk X zs ip σ3 H3 s2 s3 ∧ N j1 σ3 H3) → Seg (model X.prog X.w) A R (Give X zs out) n1 s2 (.whileLoop test body [] X.env) (.pure (.again (.whileLoop test body [] X.env))) (.ret kk none (gd false) (lv []) c p [] :: fs) s3 := by
        rintro n1 j1 s2 s3 hn1 ⟨σ3, H3, I3, n3⟩
        obtain ⟨m1, hm, w3⟩ := hN j1 σ3 H3 n3
        exact seg_again rfl (ih m1 hm n1 j1 s2 s3 σ3 H3 hn1 w3 I3)
      refine hb.run A zs ip R n j s₀ _ _ _ _ id id s1 σ H2 { D with nx := N, ct := N, bk := D.nx } (gl _) hn ⟨fun n1 j1 s2 s3 f hn1 hs => ?_, fun n1 s2 x s3 hx => exc n1 s2 x s3 hx⟩ ⟨ps, e, kp, I2⟩ q2
      cases f with
      | next => exact again n1 j1 s2 s3 hn1 hs
      | cont => exact again n1 j1 s2 s3 hn1 hs
      | brk => exact leaf_ok n1 s2 s3 .next (k.ok n1 j1 s2 s3 .next hn1 hs)
      | ret v => exact leaf_ok n1 s2 s3 (.ret v) (k.ok n1 j1 s2 s3 (.ret v) hn1 hs)
    · rw [if_neg hbt] at q2 ⊢
      refine seg_execs_nil ?_
      exact leaf_ok n s₀ s1 .next (k.ok n j s₀ s1 .next hn ⟨σ, H2, ⟨ps, e, kp, I2⟩, q2⟩)
end
end Q41
set_option maxRecDepth 100000
set_option maxHeartbeats 2000000
/-! Own rules: a generator def's promise, its items told ahead. -/
namespace Q41
open PySem PySem.Spec PyProof.Rows L2 GenW
def noX : XK := fun _ _ _ => False
def EndJ (P : Program) (w : World) (outer : List Env) (H : Hp) (s : Shared) (zs : List Addr) (Q : Hp → Prop) : GenEnd := fun n s₀ r s1 =>
  ((r = .ok (.ret .none) ∨ r = .ok .next) ∧ n = 0 ∧ ∃ H', s1.os = s.os ∧ AllBare s1.gens ∧ Un (frs outer) [] H H' s.heap s1.heap ∧ HOk P w H' s1.heap ∧ (∀ b ∈ zs, H' b = none ∧ ∃ o, s₀.heap.get? b = some o ∧ s1.heap.get? b = some o) ∧ Q H') ∨ ∃ e : Value, r = .error e ∧ False
def ItemJ (s : Shared) (zs : List Addr) (a : Addr) (g : Nat) (out : List V) : Protocol := fun n s₀ v s1 kap =>
  s1.os = s.os ∧ AllBare s1.gens ∧ s1.heap.NoLimit ∧ s1.heap.IsGen a g ∧ (∀ b ∈ zs, ∃ o, s₀.heap.get? b = some o ∧ s1.heap.get? b = some o) ∧ (∃ j x, n + 1 + j = out.length ∧ out[j]? = some x ∧ RelV x v) ∧ ∀ s', Doze zs s1 s' → kap (.send .none) s'
/-- a generator that has not begun -/
def MadeJ (P : Program) (w : World) (k : Nat) (outer : List Env) (H : Hp) (s : Shared) (out : List V) (Q : Hp → Prop) (u : Value) (s' : Shared) : Prop :=
  ∃ (a : Addr) (g : Nat) (c : Code), u = .ref a ∧ s.heap.objs.size ≤ a ∧ a < s'.heap.objs.size ∧ s'.heap.IsGen a g ∧ s'.gens[g]? = some (.fresh c) ∧ s'.os = s.os ∧ AllBare s'.gens ∧ s'.heap.NoLimit ∧ (∀ b o, s.heap.get? b = some o → s'.heap.get? b = some o) ∧
    ∀ (A : Around) (zs : List Addr) (s2 : Shared), Room k A → A.frames = some outer → (∀ b ∈ zs, s'.heap.objs.size ≤ b ∧ ∃ o, s2.heap.get? b = some o ∧ ∀ v, o.data ≠ .cell v) → (∀ b o, s'.heap.get? b = some o → s2.heap.get? b = some o) → s2.os = s.os → AllBare s2.gens →
      Seg (model P w) A (EndJ P w outer H s zs Q) (ItemJ s zs a g out) out.length s2 c ((model P w).den c) [] s2
abbrev SpJ := List V → Hp → List V → (Hp → Prop) → Prop
structure GFnJ (P : Program) (w : World) (K : PySem.W.Frag) (mg : Str → Option Value) (base : Heap) (k : Nat) (f : Addr) (fd : FuncData) (ps : List Str) (sp : SpJ) : Prop where
  len : ∀ vs H out Q, sp vs H out Q → vs.length = ps.length
  run : ∀ (A : Around) (outer : List Env) (s : Shared) (H : Hp) (args : Args) (us : List Value) (vs out : List V) (Q : Hp → Prop), Room k A → Env0 P w K mg base A outer s H → BindsTo s fd args (ps.zip us) → Vals vs us → sp vs H out Q →
    codeAny (model P w) A (.call (.ref f) args) (fun r s' => match r with | .ok (.ret u) => MadeJ P w k outer H s out Q u s' | _ => False) s
section
variable {P : Program} {w : World} {K : PySem.W.Frag} {mg : Str → Option Value} {base : Heap} {k : Nat} {f : Addr} {name qual : Str} {params : Arguments} {body : List Stmt} {scope : Scope} {dV kV doc pm cdv ct oc : Value} {an od : Option Addr} {osl : Array (Option Value)} {N ps : List Str} {sp : SpJ}
theorem gfnJ_of (lk : K.lookup f = some ⟨oc, od, .func (PySem.W.fnOf name qual params body scope dV kV doc pm an cdv ct), osl⟩) (hcd : PySem.W.codeIn K cdv qual = true) (S : GScope N ps scope)
    (len : ∀ vs H out Q, sp vs H out Q → vs.length = ps.length)
    (hbody : ∀ (A : Around) (outer : List Env) (s : Shared) (H : Hp) (vs out : List V) (Q : Hp → Prop) (pn : List (Addr × Obj)), Room k (A.deeper (envOfC qual scope s.heap.objs.size f cdv)) → sp vs H out Q →
      ∃ t, JSs (gcxOf P w K mg base N qual scope f cdv A outer s H noX pn) body out t ∧ t { nx := fun j _ H' => j = out.length ∧ Q H', rt := fun j v H' => v = .non ∧ j = out.length ∧ Q H' } 0 (start N vs) H) :
    GFnJ P w K mg base (k + 1) f (PySem.W.fnOf name qual params body scope dV kV doc pm an cdv ct) ps sp := by
  refine ⟨len, fun A outer s H args us vs out Q hr e0 hb r hsp => ?_⟩
  have hl := len _ _ _ _ hsp
  have KX : K.In s.heap := e0.mod.kin.keeps fun b o e => (e0.bs b o e).1
  have lim : s.heap.NoLimit := e0.mod.nolimit.keeps fun b o e => (e0.bs b o e).1
  refine codeAny_call_generator hr.depth (KX _ _ lk) rfl S.co S.gen rfl (PySem.W.codeRec_of KX hcd) (hb _ _ _ _ ?_)
  refine wpAny_newFunctionEnv_cells S.kind (fun y hy => ?_) fun env he s1 x => ?_
  · rcases S.par y.1 (List.of_mem_zip hy).1 with q | q
    · exact .inl q
    · exact .inr ⟨q, PySem.W.cellsFrom_some _ _ _ (.inl q)⟩
  subst he
  have lim1 : s1.heap.NoLimit := lim.keeps x.toInCall.keep
  refine ⟨lim1, ?_⟩
  obtain ⟨h1, tk, es1, hk1⟩ := x.done
  have os1 : s1.os = s.os := by rw [es1]
  have gen1 : s1.gens = s.gens := by rw [es1]
  have lt1 : s.heap.objs.size < s1.heap.objs.size := x.toInCall.ns.lt
  have kp1 : ∀ b o, s.heap.get? b = some o → s1.heap.get? b = some o := x.toInCall.keep
  suffices main : ∀ (go : Obj) (nm qn : Value) (tk2 : Nat), go.cls = .type "generator" → go.data = .fields #[.int s1.gens.size 0, nm, qn] → go.slots = #[] → (∀ h : Heap, (h.push go).get? h.objs.size = some go) →
      MadeJ P w (k + 1) outer H s out Q (.ref s1.heap.objs.size) { s1 with gens := s1.gens.push (.fresh (.func body (envOfC qual scope s.heap.objs.size f cdv))), toks := tk2, heap := s1.heap.push go } from
    main _ _ _ _ rfl rfl rfl fun h => Heap.get?_push_size _ rfl
  intro go nm qn tk2 hgc hgd0 hgs hgp
  have isg : ∀ h : Heap, h.get? s1.heap.objs.size = some go → h.IsGen s1.heap.objs.size s1.gens.size := fun h e => ⟨go, nm, qn, e, hgc, hgd0, hgs⟩
  have there : (s1.heap.push go).get? s1.heap.objs.size = some go := hgp _
  have up : ∀ b o, s1.heap.get? b = some o → (s1.heap.push go).get? b = some o := fun b o e => Heap.get?_push_of_some _ e
  refine ⟨s1.heap.objs.size, s1.gens.size, _, rfl, Nat.le_of_lt lt1, by show _ < (s1.heap.push go).objs.size; rw [Heap.size_push]; exact Nat.lt_succ_self _, isg _ there, Array.getElem?_push_size .., os1, AllBare.push (by rw [gen1]; exact e0.bare) rfl, lim1.keeps up, fun b o e => up b o (kp1 b o e), ?_⟩
  intro Aw zs s2 hrw hfr hzs hk2 hos hba
  have e0w : Env0 P w K mg base Aw outer s H := ⟨hfr, e0.mod, e0.bs, e0.bsz, e0.funs, e0.frf, e0.hok, e0.bare⟩
  obtain ⟨t, ht, hq⟩ := hbody Aw outer s H vs out Q [(s1.heap.objs.size, go)] (hrw.deeper _) hsp
  have I1 : Inv (gcxOf P w K mg base N qual scope f cdv Aw outer s H noX []) [] (start N vs) H s1 := inv_startG S hrw.hd e0w hl r x
  have kp2 : ∀ b o, s1.heap.get? b = some o → s2.heap.get? b = some o := fun b o e => hk2 b o (up b o e)
  have I2 : Inv (gcxOf P w K mg base N qual scope f cdv Aw outer s H noX []) [] (start N vs) H s2 :=
    I1.call' (ch := []) (hos.trans os1.symm) (Un.kept kp2) (I1.hok.kept kp2) hba fun b z => by simp at z
  have hea : s2.heap.get? s1.heap.objs.size = some go := hk2 _ go there
  have young : ∀ b, s1.heap.objs.size ≤ b → H b = none ∧ b ≠ s.heap.objs.size ∧ b ∉ frs outer ∧ s.heap.objs.size ≤ b ∧ ∀ y c, (cellsFrom (s.heap.objs.size + 1) scope.names []).lookup y = some c → c ≠ b := fun b hb => by
    refine ⟨I1.hok.fresh hb, Nat.ne_of_gt (Nat.lt_of_lt_of_le lt1 hb), I1.nofs hb, Nat.le_trans (Nat.le_of_lt lt1) hb, fun y c e z => ?_⟩
    obtain ⟨v, ob, ho, _⟩ := I1.cell y c e
    have q := Heap.lt_size ho
    rw [z] at q
    exact absurd (Nat.lt_of_lt_of_le q hb) (Nat.lt_irrefl _)
  have big : ∀ b ∈ zs, s1.heap.objs.size < b := fun b hb => by
    have q : (s1.heap.push go).objs.size ≤ b := (hzs b hb).1
    rw [Heap.size_push] at q
    exact q
  obtain ⟨ps, eps, kps⟩ := assoc_of (h := s2.heap) fun b hb => (hzs b hb).2
  have W0 : Wk (gcxOf P w K mg base N qual scope f cdv Aw outer s H noX [(s1.heap.objs.size, go)]) zs [] (start N vs) H s2 s2 := by
    refine ⟨ps, eps, fun p hp => (kps p hp).1, Inv.pinnedG I2 fun p hp => ?_⟩
    rcases List.mem_append.mp hp with z | z
    · rw [List.mem_singleton.mp z]
      obtain ⟨y1, y2, y3, _, _⟩ := young s1.heap.objs.size (Nat.le_refl _)
      exact ⟨hea, y1, y2, y3, fun v q => by rw [hgd0] at q; cases q⟩
    · have z : p ∈ ps := by simpa using z
      have hb : p.1 ∈ zs := by
        rw [← eps]
        exact List.mem_map.mpr ⟨p, z, rfl⟩
      obtain ⟨y1, y2, y3, _, _⟩ := young p.1 (Nat.le_of_lt (big _ hb))
      exact ⟨(kps p z).1, y1, y2, y3, (kps p z).2⟩
  have hAp : ∀ b ∈ zs, Apart (gcxOf P w K mg base N qual scope f cdv Aw outer s H noX [(s1.heap.objs.size, go)]) b := fun b hb => by
    obtain ⟨_, y2, _, y4, y5⟩ := young b (Nat.le_of_lt (big b hb))
    exact ⟨y4, y2, y5⟩
  have hpn : ∀ p ∈ [(s1.heap.objs.size, go)], p.1 ∉ zs := fun p hp hm => by
    rw [List.mem_singleton.mp hp] at hm
    exact absurd (big _ hm) (Nat.lt_irrefl _)
  have pinned : ∀ {ip : List (Addr × Obj)} {s₀ s' : Shared} {σ' : L2.St} {H' : Hp}, Wk (gcxOf P w K mg base N qual scope f cdv Aw outer s H noX [(s1.heap.objs.size, go)]) zs ip σ' H' s₀ s' → s'.heap.IsGen s1.heap.objs.size s1.gens.size ∧ s'.os = s.os ∧ AllBare s'.gens ∧ s'.heap.NoLimit ∧ Un (frs outer) [] H H' s.heap s'.heap ∧ HOk P w H' s'.heap := fun {ip s₀ s' σ' H'} hI => by
    obtain ⟨_, _, _, J⟩ := hI
    exact ⟨isg _ (J.pin (s1.heap.objs.size, go) (List.mem_append_left _ (List.mem_singleton.mpr rfl))).1, J.os, J.bare, J.nolimit, J.base, J.hok⟩
  refine seg_func ?_
  refine seg_imp (R := Quit (gcxOf P w K mg base N qual scope f cdv Aw outer s H noX [(s1.heap.objs.size, go)]) zs out (fun j v H' => v = .non ∧ j = out.length ∧ Q H'))
    (Y := Give (gcxOf P w K mg base N qual scope f cdv Aw outer s H noX [(s1.heap.objs.size, go)]) zs out) (fun n s₀ r s3 hR => ?_) (fun n s₀ v s3 kap kap' hkk hY => ?_) out.length ?_
  · cases r with
    | error e => exact False.elim hR
    | ok fl =>
      cases fl with
      | next => exact False.elim hR
      | brk => exact False.elim hR
      | cont => exact False.elim hR
      | ret u =>
        obtain ⟨j, v, ip, σ', H', hn, hI, rv, ev, ej, hQ⟩ := hR
        subst ev
        have eu : u = Value.none := rv
        subst eu
        obtain ⟨_, a1, a2, _, a4, a5⟩ := pinned hI
        exact .inl ⟨.inl rfl, by omega, H', a1, a2, a4, a5, hI.same, hQ⟩
  · obtain ⟨j, x1, ip, σ', H', hn, hx, rv, hI, h3⟩ := hY
    obtain ⟨a0, a1, a2, a3, _, _⟩ := pinned hI
    exact ⟨a1, a2, a3, a0, fun b hb => (hI.same b hb).2, ⟨j, x1, hn, hx, rv⟩, fun s' z => hkk _ _ (h3 s' z)⟩
  · refine ht.run Aw zs [] _ out.length 0 s2 _ [] _ _ id id s2 (start N vs) H _ ⟨hpn, fun p hp => (by simp at hp), hAp, over_func, rfl, rfl, rfl⟩ (Nat.add_zero _) ⟨fun n j s₀ s' fl hn hs => ?_, fun n s₀ e s' hx => ?_⟩ W0 hq
    · cases fl with
      | next =>
        obtain ⟨σ', H', hI, ej, hQ⟩ := hs
        exact seg_end (.ok (.ret .none)) ⟨j, .non, [], σ', H', hn, hI, rfl, rfl, ej, hQ⟩
      | brk => obtain ⟨_, _, _, q⟩ := hs; exact False.elim q
      | cont => obtain ⟨_, _, _, q⟩ := hs; exact False.elim q
      | ret u =>
        obtain ⟨v, σ', H', hI, rv, ev, ej, hQ⟩ := hs
        exact seg_end (.ok (.ret u)) ⟨j, v, [], σ', H', hn, hI, rv, ev, ej, hQ⟩
    · refine seg_wrap ?_
      rw [over_func]
      refine wpAny_mono (show wpAny (model P w) (Aw.deeper (envOfC qual scope s.heap.objs.size f cdv)) (leaving (envOfC qual scope s.heap.objs.size f cdv) e) (fun _ s'' => L2.CX P w outer H s noX e s'' ∧ ∀ p ∈ [(s1.heap.objs.size, go)], s''.heap.get? p.1 = some p.2) (fun _ _ => False) s' from hx) (fun _ s'' q => ?_) fun _ s'' q => q.elim
      obtain ⟨⟨_, _, _, _, _, _, _, _, _, _, _, _, q⟩, _⟩ := q
      exact False.elim q
end
end Q41
set_option maxRecDepth 100000
set_option maxHeartbeats 2000000
/-! Own rules: a list comprehension over a generator: [x for x in g]. -/
namespace Q41
open PySem PySem.Spec PyProof.Rows L2 GenW
abbrev TGenJ := L2.St → Hp → List V → (Hp → Prop) → Prop
structure PGenJ (X : Cx) (k : Nat) (e : Expr) (tg : TGenJ) : Prop where
  run : ∀ (pins : List (Addr × Obj)) (s : Shared) (σ : L2.St) (H : Hp) (out : List V) (cont : Hp → Prop), Inv X pins σ H s → tg σ H out cont → wpAny (model X.prog X.w) X.A (eval e X.env)
    (fun u s' => ∃ H1 sc, Inv X pins σ H1 sc ∧ MadeJ X.prog X.w k X.stack H1 sc out cont u s') X.xe s
section
variable {X : Cx} {k : Nat} {f C : Addr} {fd : FuncData} {ps : List Str} {sp : SpJ} {x m : Str} {p pos pos' apos : Pos} {o : Expr} {ta : TE}
theorem run_gfnJ {pins : List (Addr × Obj)} {σ : L2.St} {H : Hp} {s : Shared} {us : List Value} {vs out : List V} {cont : Hp → Prop} {E1 : Value → Shared → Prop} (F : GFnJ X.prog X.w X.K X.mg X.base k f fd ps sp) (hr : Room k X.A) (hb : Binds X.K fd ps [])
    (I : Inv X pins σ H s) (r : Vals vs us) (h : sp vs H out cont) :
    wpAny (model X.prog X.w) X.A (call (.ref f) us) (fun u s' => ∃ H1 sc, Inv X pins σ H1 sc ∧ MadeJ X.prog X.w k X.stack H1 sc out cont u s') E1 s := by
  have hl2 : us.length = ps.length := by rw [← r.length]; exact F.len _ _ _ _ h
  refine wpAny_call (codeAny_mono (F.run X.A X.stack s H ⟨us, []⟩ us vs out cont hr I.env0 (by simpa using hb s us I.kIn (by simpa using hl2)) r h) fun r s' hq => ?_)
  cases r with
  | error e => exact False.elim hq
  | ok fl =>
    cases fl with
    | ret u => exact ⟨H, s, I, hq⟩
    | next => exact False.elim hq
    | brk => exact False.elim hq
    | cont => exact False.elim hq
def tMethJ (C : Addr) (m : Str) (sp : SpJ) (ta : TE) : TGenJ := fun σ H out cont => ta σ H fun x H1 => ∃ a dx fs, x = .ref a ∧ H1 a = some (.ins C dx fs) ∧ fs.lookup m = none ∧ sp [x] H1 out cont
/-- o.m() -/
theorem pgenJ_meth0 {pl : Sem Bool} (he : PE X o ta) (c : Cls X.K C) (hm : Meth X.K C m f) (F : GFnJ X.prog X.w X.K X.mg X.base k f fd ps sp) (hr : Room k X.A) (hb : Binds X.K fd ps [])
    (ht : eval (.Call (.Attribute o m apos) [] [] pos') X.env = (do
      let v ← eval o X.env
      standAt apos.atName
      let (g, first) ← holding [v] (getMethod v m pl)
      callWith pos' g first (backTo pos' (starEach [] X.env)) (backToKw pos' (keywordEach [] X.env))) := by rfl) :
    PGenJ X k (.Call (.Attribute o m apos) [] [] pos') (tMethJ C m sp ta) := by
  refine ⟨fun pins s σ H out cont I h => ?_⟩
  refine PySem.W.methodCall_KW (pl := pl) (thn (he.run pins s σ H _ I h) fun u s1 ⟨x, H1, I1, rx, a, dx, fs, ex, ea, l, q⟩ => ?_) ht
  subst ex
  obtain rfl : u = Value.ref a := rx
  refine getmeth_ok I1 ea c hm l ?_
  exact PySem.W.callWith_K0 (first := [.ref a]) I1.kIn hm.kp (run_gfnJ (us := [.ref a]) (vs := [.ref a]) F hr hb I1 (.cons rfl .nil) q)
def tLcJ (tg : TGenJ) : TE := fun σ H Q => ∃ out, out.length ≤ 1000 ∧ tg σ H out fun H2 => ∀ p, H2 p = none → Q (.ref p) (upd H2 p (.lst out))
/-- [x for x in g] -/
theorem pe_lcJ {e : Expr} {tg : TGenJ} {scope : Scope} {x : Str} {p1 p2 pos : Pos} (hc : X.calm = true) (h : PGenJ X k e tg) (hr : Room (k + 2) X.A) (hk : scope.kind = .function) (hx : scope.names.lookup x = some .local)
    (hall : ∀ y ∈ scope.names, y.2 = .local ∧ scope.names.lookup y.1 = some .local) (hs : ∀ v, foldedSetIterable e X.env v = pure v := by intro _; rfl) (hdb : (x == ("__debug__" : Str)) = false := by decide) :
    PE X (.ListComp (.Name x p1) [⟨.Name x p2, e, [], 0⟩] scope pos) (tLcJ tg) := by
  refine ⟨fun pins s σ H Q I ⟨out, hlen, hq⟩ => ?_⟩
  rw [eval_ListComp]
  have hfree : ∀ y ∈ scope.names, y.2 = .free → ∃ c, X.env.cells.lookup y.1 = some c := fun y hy e => by
    rw [(hall y hy).1] at e
    cases e
  refine wpAny_comprehension_free (use := none) rfl hs (closure_ok hfree) hk (fun y hy e => (hall y hy).2) (thn (h.run pins s σ H out _ I hq) fun u s1 ⟨H1, sc, I1, hG⟩ => ?_)
  obtain ⟨a, g, c, rfl, ha1, ha2, hg, hgs, hos, hb, hl, hkp, wake⟩ := hG
  refine wpAny_pyIter_gen hg ?_
  refine wpAny_newObj_type (newEnv_comp ?_) (by show 0 ≤ sizeLine; decide)
  generalize hD : s1.heap.objs.size = D
  have szC : (s1.heap.push { cls := .type "list", data := .seq ([] : List Value).toArray }).objs.size = D + 1 := by rw [Heap.size_push, hD]
  generalize hh3 : s1.heap.push { cls := .type "list", data := .seq ([] : List Value).toArray } = h3 at szC
  have k3 : ∀ b o, s1.heap.get? b = some o → h3.get? b = some o := fun b o e => by rw [← hh3]; exact Heap.get?_push_of_some _ e
  have eD3 : h3.get? D = some (lstObj #[] 0) := by rw [← hh3, ← hD]; exact Heap.get?_push_size _ rfl
  show codeAny _ _ (.compStart (.ListComp (.Name x p1) [⟨.Name x p2, e, [], 0⟩] scope pos) 0 (.ref a) (.ref D) (compEnvC scope (cellsFrom (h3.objs.size + 1) scope.names (cloFrom X.env.cells scope.names [])) h3.objs.size X.env)) (compPost (model X.prog X.w) X.A X.xe none (EP X pins σ Q) (.ref D) h3.objs.size) { s1 with heap := pushCells (h3.push { cls := .type "dict", data := .dict #[] }) scope.names }
  rw [szC]
  generalize hC : D + 1 = C
  have hDC : C ≠ D := by omega
  generalize hce : compEnvC scope (cellsFrom (C + 1) scope.names (cloFrom X.env.cells scope.names [])) C X.env = ce
  have cL : ce.locals = C := by rw [← hce] <;> rfl
  have cK : ce.kindOf x = some .local := by
    rw [← hce]
    exact lookup_relabel_local hx
  have cF : ce.scope.kind = .function := by
    rw [← hce]
    exact hk
  generalize hh4 : pushCells (h3.push { cls := .type "dict", data := .dict #[] }) scope.names = h4
  have k4 : ∀ b o, h3.get? b = some o → h4.get? b = some o := fun b o e => by rw [← hh4]; exact pushCells_keeps _ _ _ _ (Heap.get?_push_of_some _ e)
  have k14 : ∀ b o, s1.heap.get? b = some o → h4.get? b = some o := fun b o e => k4 b o (k3 b o e)
  have nC4 : h4.Ns C (fun _ => none) := by
    rw [← hh4, ← hC, ← szC]
    exact Heap.Ns.keeps (Heap.Ns.new ..) fun b o e => pushCells_keeps _ _ _ _ e
  have notcell : ∀ {h : Heap} {mm : Str → Option Value}, h.Ns C mm → ∃ o, h.get? C = some o ∧ ∀ v, o.data ≠ .cell v := fun {h mm} ⟨o, es, ep, ho, hd, _⟩ => ⟨o, ho, fun v q => by rw [hd] at q; cases q⟩
  have szle : sc.heap.objs.size ≤ s1.heap.objs.size := Nat.le_trans ha1 (Nat.le_of_lt ha2)
  have aD : a ≠ D := by rw [← hD]; exact Nat.ne_of_lt ha2
  have aC : a ≠ C := by rw [← hC, ← hD]; exact Nat.ne_of_lt (Nat.lt_succ_of_lt ha2)
  have hcl : cStatics < s1.heap.objs.size := let ⟨_, hn, _⟩ := hl; hn.lt
  have loop : codeAny (model X.prog X.w) X.A (.compLoop (.ListComp (.Name x p1) [⟨.Name x p2, e, [], 0⟩] scope pos) 0 (.ref a) (.ref D) ce) (compPost (model X.prog X.w) X.A X.xe none (EP X pins σ Q) (.ref D) C) { s1 with heap := h4 } := by
    refine compLoop_any (fun n s5 => n ≤ out.length ∧ ∃ acc cnt mm gs, s5.heap.Ns C mm ∧ s5.heap.get? D = some (lstObj acc cnt) ∧ Vals (out.take (out.length - n)) acc.toList ∧ s5.heap.IsGen a g ∧ s5.heap.NoLimit ∧ s5.gens[g]? = some gs ∧
      gs.Goes (model X.prog X.w) X.A.in1 (EndJ X.prog X.w X.stack H1 sc [C, D] (fun H2 => ∀ p, H2 p = none → Q (.ref p) (upd H2 p (.lst out)))) (ItemJ sc [C, D] a g out) n (.send .none) (s5.setGen g .running)) ?_ out.length
      ⟨Nat.le_refl _, #[], 0, _, _, nC4, k4 _ _ eD3, by rw [Nat.sub_self]; exact .nil, hg.keeps k14, hl.keeps k14, hgs, rfl, ?_⟩
    · rintro n s5 ⟨hn, acc, cnt, mm, gs, nC, eD, rv, hg5, hl5, hgs5, hgo⟩
      have hgl : g < s5.gens.size := (Array.getElem?_eq_some_iff.mp hgs5).1
      have same : ∀ {s₀ s6 : Shared}, s₀.heap = s5.heap → (∀ b ∈ [C, D], ∃ o, s₀.heap.get? b = some o ∧ s6.heap.get? b = some o) → s6.heap.Ns C mm ∧ s6.heap.get? D = some (lstObj acc cnt) := fun {s₀ s6} e0 h => by
        obtain ⟨o1, q1, q2⟩ := h C (by simp)
        obtain ⟨o2, q3, q4⟩ := h D (by simp)
        rw [e0] at q1 q3
        rw [eD] at q3
        obtain ⟨oc, es, ep, hoc, r⟩ := nC
        rw [q1] at hoc
        cases hoc
        cases q3
        exact ⟨⟨o1, es, ep, q2, r⟩, q4⟩
      refine wpAny_gsz (n := g + 1) hgl (next_genG (A := X.A) (n := n) (F := fun n s₀ s6 => n = 0 ∧ ∃ H', s6.os = sc.os ∧ AllBare s6.gens ∧ Un (frs X.stack) [] H1 H' sc.heap s6.heap ∧ HOk X.prog X.w H' s6.heap ∧ (∀ b ∈ [C, D], H' b = none ∧ ∃ o, s₀.heap.get? b = some o ∧ s6.heap.get? b = some o) ∧ ∀ p, H' p = none → Q (.ref p) (upd H' p (.lst out)))
        (Er := fun _ _ => False) (I1.ok.hd hc) hl5 hr.depth hg5 hgs5 hgo (fun v s6 gs' hbare hv => ?_) (fun s6 hp h' hk => ?_) fun _ _ he => he.elim)
      · intro hsz
        obtain ⟨os6, hb6, hl6, hg6, hz6, ⟨j, y, hnj, hy, ry⟩, wk⟩ := hv
        obtain ⟨nC6, eD6⟩ := same rfl hz6
        cases n with
        | zero =>
          refine False.elim (wk s6 ⟨rfl, hb6, fun b o _ q => q, fun b hb => ?_⟩)
          have hb' : b = C ∨ b = D := by simpa using hb
          rcases hb' with rfl | rfl
          · exact notcell nC6
          · exact ⟨_, eD6, fun v q => by cases q⟩
        | succ n =>
          have hsz1 : g < s6.gens.size := by
            have q : (s6.setGen g gs').gens.size = s6.gens.size := setGen_size _ _ _
            have q2 : g + 1 ≤ (s6.setGen g gs').gens.size := hsz
            omega
          show wpAny _ _ (pure ()) _ _ _
          refine wpAny_pure (wpAny_assign_Name (wpAny_storeName_local (s := s6.setGen g gs') cK (by rw [cL]; exact nC6) (fun h7 nC7 sb7 => ?_) (by rw [cF]; rfl)))
          rw [cL] at nC7 sb7
          refine wpAny_tests_nil ?_
          rw [if_pos rfl, arm_eval_Name]
          refine wpAny_bind (wpAny_standAt ?_)
          rw [hdb, if_neg Bool.false_ne_true]
          refine wpAny_loadName_local cF cK (by rw [cL]; exact nC7) (v := v) (by rw [if_pos rfl]) ?_
          have eD7 : h7.get? D = some (lstObj acc cnt) := (sb7.2 D (Ne.symm hDC)).trans eD6
          have hal : acc.size = out.length - (n + 1) := by
            have e1 := rv.length
            have e2 : acc.toList.length = acc.size := by simp
            rw [List.length_take] at e1
            omega
          refine append_at eD7 (fun h8 sb8 eD8 => ?_) (by rw [sizeLine_eq]; omega)
          have nC8 := nC7.sameBut sb8 hDC
          have keep : ∀ b o, b ∉ [C, D] → s6.heap.get? b = some o → h8.get? b = some o := fun b o hb q => by
            simp only [List.mem_cons, List.not_mem_nil, or_false, not_or] at hb
            exact (sb8.2 b hb.2).trans ((sb7.2 b hb.1).trans q)
          obtain ⟨og, nm, qn, hog, hgr⟩ := hg6
          refine ⟨n, Nat.lt_succ_self _, Nat.le_of_succ_le hn, acc.push v, cnt + 1, _, gs', nC8, eD8, ?_, ⟨og, nm, qn, keep a og (by simp [aC, aD]) hog, hgr⟩, ?_, setGen_at hsz1, ?_⟩
          · have e3 : out.length - n = (out.length - (n + 1)) + 1 := by omega
            have e4 : out.length - (n + 1) = j := by omega
            rw [e3, List.take_add_one, e4, hy, Array.toList_push]
            rw [e4] at rv
            exact rv.append (.cons ry .nil)
          · obtain ⟨mc, hns, hnn⟩ := hl6
            exact ⟨mc, hns.at' fun o q => keep _ o (by
              simp only [List.mem_cons, List.not_mem_nil, or_false, not_or]
              exact ⟨by rw [← hC, ← hD]; exact Nat.ne_of_lt (Nat.lt_succ_of_lt hcl), by rw [← hD]; exact Nat.ne_of_lt hcl⟩) q, hnn⟩
          · refine wk _ ⟨rfl, allBare_setGen (s := s6.setGen g gs') (allBare_setGen hb6 hbare) rfl, keep, fun b hb => ?_⟩
            have hb' : b = C ∨ b = D := by simpa using hb
            rcases hb' with rfl | rfl
            · exact notcell nC8
            · exact ⟨_, eD8, fun v q => by cases q⟩
      · intro _
        obtain ⟨rfl, H', os6, hb6, un6, hok6, hz6, hQ⟩ := hp
        obtain ⟨nC6, eD6⟩ := same rfl fun b hb => (hz6 b hb).2
        have zD := (hz6 D (by simp)).1
        have zC := (hz6 C (by simp)).1
        rw [Nat.sub_zero, List.take_length] at rv
        have J : Inv X pins σ (upd H' D (.lst out)) { s6.setGen g .finished with heap := h' } :=
          I1.drained (ex := []) (by rw [← hD]; exact szle) (by rw [sizeLine_eq]; omega) (hk _ _ eD6) rv ExOk.nil os6 (allBare_setGen hb6 rfl) (un6.trans (Un.kept hk)) (hok6.kept hk) zD
        refine ⟨_, nC6.keeps hk, fun h9 sb9 => ?_⟩
        have zC2 : (upd H' D (.lst out)) C = none := by
          rw [upd_ne hDC]
          exact zC
        obtain ⟨f0, f1, f2, f3, f4, f5⟩ := I1.fpOk (b := C) (by rw [← hC, ← hD]; exact Nat.le_succ_of_le szle) zC2
        exact ⟨.ref D, _, J.turned (t' := s6.toks) (fun b o hb q => (sb9.2 b hb).trans q) f0 f1 f3 f4 f5, rfl, hQ D zD⟩
    · refine wake _ _ _ (hr.mono (Nat.le_succ _)).in1 I1.ok.frames (fun b hb => ?_) k14 hos (allBare_setGen (s := { s1 with heap := h4 }) hb rfl)
      have hb' : b = C ∨ b = D := by simpa using hb
      rcases hb' with rfl | rfl
      · exact ⟨by show s1.heap.objs.size ≤ _; omega, notcell nC4⟩
      · exact ⟨by show s1.heap.objs.size ≤ _; omega, _, k4 _ _ eD3, fun v q => by cases q⟩
  refine codeAny_compStart_list loop (wpAny_pyIter_gen (s := { s1 with heap := h4 }) (hg.keeps k14) loop)
end
end Q41
set_option maxRecDepth 100000
set_option maxHeartbeats 4000000
/-! Own rules: a caught exception that outlives its suite. -/
namespace Q41
open PySem PySem.Spec PyProof.Rows L2
/-- at a: an exception of the class cls with the dict d -/
def exk (a : Addr) (cls : Value) (d : Option Addr) : HO := .ext fun h => ∃ (oe : Obj) (vs : Array Value), h.get? a = some oe ∧ Zc cls d oe ∧ oe.data = .fields vs
theorem exk_ok {P : Program} {w : World} {H : Hp} {h : Heap} {a : Addr} {cls : Value} {d : Option Addr} {oe : Obj} {vs : Array Value} (e : h.get? a = some oe) (z : Zc cls d oe) (q : oe.data = .fields vs) : ObjOk P w H h a (exk a cls d) :=
  ⟨⟨oe, vs, e, z, q⟩, ⟨oe, e⟩, fun h1 h2 ⟨o, v, q1, q2⟩ k => ⟨o, v, k o q1, q2⟩⟩
theorem exk_at {P : Program} {w : World} {H : Hp} {h : Heap} {a : Addr} {cls : Value} {d : Option Addr} (hok : HOk P w H h) (e : H a = some (exk a cls d)) : ∃ (oe : Obj) (vs : Array Value), h.get? a = some oe ∧ Zc cls d oe ∧ oe.data = .fields vs := by
  have z : ObjOk P w H h a (.ext fun h => ∃ (oe : Obj) (vs : Array Value), h.get? a = some oe ∧ Zc cls d oe ∧ oe.data = .fields vs) := hok a _ e
  exact z.1
section
variable {X : Cx} {pins : List (Addr × Obj)} {σ : L2.St} {H : Hp} {s : Shared}
theorem Inv.trackK {a : Addr} {o : HO} (I : Inv X pins σ H s) (hn : H a = none) (h0 : X.s_0.heap.get? a = none) (hL : a ≠ X.env.locals) (hc : ∀ x c, X.env.cells.lookup x = some c → c ≠ a) (hp : ∀ p ∈ X.pn ++ pins, p.1 ≠ a) (new : ObjOk X.prog X.w (upd H a o) s.heap a o) : Inv X pins σ (upd H a o) s := by
  have ne0 : ∀ b ob, X.s_0.heap.get? b = some ob → b ≠ a := fun b ob e z => by
    rw [z, h0] at e
    cases e
  refine ⟨I.ok, I.os, I.bare, ⟨I.base.keep, I.base.slot, fun b ob e n hx => ?_, I.base.there, fun b xs e => ?_, fun b ob u e => ?_, fun b qs e => ?_⟩, I.loc, I.cell, ?_, fun x c e => ?_, fun p hp' => ?_, I.hok.laidN (fun _ _ z => z) hn new, I.len⟩
  · rw [upd_ne (ne0 b ob e)]
    exact I.base.free b ob e n hx
  · have z := I.base.tups b xs e
    rw [upd_ne (ne_of_none z hn)]
    exact z
  · have z := I.base.frzs b ob u e
    rw [upd_ne (ne_of_none z hn)]
    exact z
  · obtain ⟨more, z⟩ := I.base.tbls b qs e
    exact ⟨more, by rw [upd_ne (ne_of_none z hn)]; exact z⟩
  · rw [upd_ne (Ne.symm hL)]
    exact I.free
  · rw [upd_ne (hc x c e)]
    exact I.freeC x c e
  · obtain ⟨e1, e2, r⟩ := I.pin p hp'
    exact ⟨e1, by rw [upd_ne (hp p hp')]; exact e2, r⟩
end
def wK (K : PySem.W.Frag) (c : Value) (i : Nat) (ts : Addr → Value → Option Addr → TS) (D : Ends) : WX := fun cls d σ H => PySem.W.exmOne K cls c = some true ∧
  ∀ a, H a = none → ts a cls d { nx := fun σ' H' => H' a = none → D.nx (σ'.set i none) (upd H' a (exk a cls d)), rt := fun _ _ => False } (σ.set i (some (.ref a))) H
section
variable {X : Cx} {x n : Str} {c : Value} {i : Nat} {body suite : List Stmt} {b₀ : Stmt} {np pos pos' : Pos} {tb : WX → TS} {ts : Addr → Value → Option Addr → TS}
theorem ps_try_keep (hs : X.stack = X.env :: X.outer) (hf : X.env.frame = some X.env.locals) (hN : X.N.Nodup) (hi : X.N[i]? = some n) (hln : X.env.kindOf n = some .local) (hc : Names X x c) (hex : X.ex = [])
    (hb : ∀ (W : WX) (pn : List (Addr × Obj)) (xe : Value → Shared → Prop), Takes (X.tr pn xe) W → PassesOwn (model X.prog X.w) X.A X.env xe → PSs (X.tr pn xe) body (tb W))
    (hsu : ∀ (a : Addr) (oe : Obj) (cls : Value) (d : Option Addr) (pn : List (Addr × Obj)), Zc cls d oe → (∃ vs, oe.data = .fields vs) → PSs (X.suite a ((a, oe) :: pn)) (b₀ :: suite) (ts a cls d)) :
    PS X (.Try body [.ExceptHandler (some (.Name x np)) (some n) (b₀ :: suite) pos'] [] [] pos) (fun D σ H => tb (wK X.K c i ts D) D σ H) := by
  refine ⟨fun pins s σ H D I h => ?_⟩
  have ok := I.ok
  have hfr : X.A.frames = some (X.env :: X.outer) := by rw [ok.frames, hs]
  refine wpAny_Try_except (wpAny_mono ((hb (wK X.K c i ts D) (X.pn ++ pins) (fun e s₁ => wpAny (model X.prog X.w) X.A (noteFrame e X.env) (fun _ s₂ => wpAny (model X.prog X.w) X.A (setFlight e none) (fun _ s₃ =>
    wpAny (model X.prog X.w) X.A (handleBy e X.env [.ExceptHandler (some (.Name x np)) (some n) (b₀ :: suite) pos']) (SP X pins D) X.xe s₃) X.xe s₂) X.xe s₁) (fun u s1 xx => ?_) PassesOwn.looking).run [] s σ H D (I.toTry _) h) (fun f s1 hsp => ?_) fun e s1 he => he)
  · obtain ⟨a, B, sI, pins1, σ1, H1, cls, d, rfl, J0, nb, up, sky, na, os, ag, hb1, hyes⟩ := xx
    have J : Inv X pins σ1 H1 sI := J0.ofTry ok
    show wpAny (model X.prog X.w) X.A (noteFrame (.ref a) X.env) _ _ _
    refine Sky.land Zc.steady hfr hf (by rw [← hs]; exact sky) fun h3 fl3 up3 => ?_
    obtain ⟨oe3, vs3, he3, hz3, hd3⟩ := fl3.there
    have nfr : a ∉ frs (X.env :: X.outer) := fun hm => by
      obtain ⟨_, o1, e1, hnf⟩ := fl3.2.2.1.mem hm
      rw [he3] at e1
      cases e1
      exact hnf _ hd3
    have nL : a ≠ X.env.locals := fun z => nfr (List.mem_filterMap.mpr ⟨X.env, List.mem_cons_self, by rw [hf, z]⟩)
    have nF : a ∉ X.fs := fun hm => by
      obtain ⟨e, he, q⟩ := List.mem_filterMap.mp hm
      exact nfr (List.mem_filterMap.mpr ⟨e, List.mem_cons_of_mem _ he, q⟩)
    have nI : sI.heap.get? a = none := by
      cases q : sI.heap.get? a with
      | none => rfl
      | some o =>
        have z := nb a o q (by rw [hs]; exact nfr)
        rw [fl3.2.1] at z
        cases z
    have n0 : X.s_0.heap.get? a = none := by
      cases q : X.s_0.heap.get? a with
      | none => rfl
      | some o =>
        obtain ⟨o2, z⟩ := J.base.there a o q (by rw [hex]; exact fun w => nomatch w)
        rw [nI] at z
        cases z
    have nC : ∀ y cc, X.env.cells.lookup y = some cc → cc ≠ a := fun y cc e z => by
      obtain ⟨v, o, ho, _⟩ := J.cell y cc e
      rw [z, nI] at ho
      cases ho
    have nP : ∀ p ∈ X.pn ++ pins, p.1 ≠ a := fun p hp z => by
      have q := (J.pin p hp).1
      rw [z, nI] at q
      cases q
    have J3 : Inv X pins σ1 H1 { s1 with heap := h3 } := J.landed nb fl3.1 (up.trans up3) os ag
    have S3 := J3.suite he3 hd3 na nL nF
    refine wpAny_handleBy_cons (codeAny_handlers_test ?_) (by intro q; cases q)
    have LT : PySem.W.Looks (model X.prog X.w) h3 (typeOf (.ref a)) cls := fun A Q E s k q => wpAny_typeOf_ref (k _ _ he3) (by rw [hz3.1]; exact q)
    have LM := PySem.W.exm_one (M := model X.prog X.w) (J3.kIn) LT hb1
    have test : ∀ {Q : Value → Shared → Prop} {E : Value → Shared → Prop}, Q c { s1 with heap := h3 } → wpAny (model X.prog X.w) (X.A.mark (some (.ref a))) (eval (.Name x np) X.env) Q E { s1 with heap := h3 } := fun {Q E} q => by
      obtain ⟨hg, hdbg, hm | ⟨hm, hv, hnn⟩⟩ := hc
      · exact ld_glob (X := X.suite a ((a, oe3) :: (X.pn ++ pins))) S3 hg hm q hdbg
      · exact ld_blt (X := X.suite a ((a, oe3) :: (X.pn ++ pins))) S3 hg hm hv q hnn hdbg
    refine test (LM.here (codeAny_handlers_suite_as (HandSPX.lands_againZ fl3 fun h4 fl4 up4 => ?_)))
    have J4 : Inv X pins σ1 H1 { s1 with heap := h4 } := J.landed nb fl4.1 ((up.trans up3).trans up4) os ag
    obtain ⟨oe4, vs4, he4, hz4, hd4⟩ := fl4.there
    have S4 := J4.suite he4 hd4 na nL nF
    refine store_ok (X := X.suite a ((a, oe4) :: (X.pn ++ pins))) (v := .ref a) S4 hN hi (.inl hln) rfl (fun s5 S5 => ?_) (.inr hln)
    refine wpAny_mono ((hsu a oe4 cls d (X.pn ++ pins) hz4 ⟨_, hd4⟩).run [] s5 _ H1 _ S5 (hyes a na)) (fun f s6 hsp => ?_) (fun _ _ z => False.elim z)
    cases f with
    | next =>
      obtain ⟨σ6, H6, S6, q6⟩ := hsp
      obtain ⟨e6, n6, _⟩ := S6.pin (a, oe4) (List.mem_append_left _ List.mem_cons_self)
      have T6 : Inv X pins σ6 (upd H6 a (exk a cls d)) s6 := Inv.trackK (S6.unsuite ok) n6 n0 nL nC nP (exk_ok e6 hz4 hd4)
      exact gone_ok T6 hN hi hln fun s7 J7 => ⟨_, _, J7, q6 n6⟩
    | brk =>
      obtain ⟨_, _, _, q⟩ := hsp
      exact False.elim q
    | cont =>
      obtain ⟨_, _, _, q⟩ := hsp
      exact False.elim q
    | ret u =>
      obtain ⟨_, _, _, _, _, q⟩ := hsp
      exact False.elim q
  · cases f with
    | next =>
      obtain ⟨σ1, H1, J1, q⟩ := hsp
      exact wpAny_execs_nil ⟨σ1, H1, J1.ofTry ok, q⟩
    | brk =>
      obtain ⟨σ1, H1, J1, q⟩ := hsp
      exact ⟨σ1, H1, J1.ofTry ok, q⟩
    | cont =>
      obtain ⟨σ1, H1, J1, q⟩ := hsp
      exact ⟨σ1, H1, J1.ofTry ok, q⟩
    | ret u =>
      obtain ⟨v, σ1, H1, J1, r, q⟩ := hsp
      exact ⟨v, σ1, H1, J1.ofTry ok, r, q⟩
end
/-- e.f, e such an exception -/
def tXk (C : Addr) (f : Str) (te : TE) : TE := fun σ H Q => te σ H fun x H1 => ∃ (a dd : Addr) (fs : List (Str × V)) (v : V), x = .ref a ∧ H1 a = some (exk a (.ref C) (some dd)) ∧ H1 dd = some (.xd fs) ∧ fs.lookup f = some v ∧ Q v H1
theorem pe_xk {X : Cx} {C : Addr} {e : Expr} {te : TE} {pos : Pos} {f : Str} (T : XfC X.K C) (hno : PySem.W.findIn X.K (.ref C) f = some none) (he : PE X e te) (hb : attributeBase e f X.env (eval e X.env) = eval e X.env := by rfl) : PE X (.Attribute e f pos) (tXk C f te) := by
  refine ⟨fun pins s σ H Q I h => attr_of hb (thn (he.run pins s σ H _ I h) fun u s1 hh => ?_)⟩
  obtain ⟨x, H1, I1, rx, a, dd, fs, v, ex, ea, ed, l, q⟩ := hh
  subst ex
  obtain rfl : u = Value.ref a := rx
  obtain ⟨oe, vs, ha, hz, hd⟩ := exk_at I1.hok ea
  obtain ⟨mA, hns, hr⟩ := (show ObjOk X.prog X.w H1 s1.heap dd (.xd fs) from I1.hok dd _ ed)
  obtain ⟨od, ho, hl⟩ := lookIn_ns hns
  obtain ⟨u, hu, ru⟩ := RelO.some_of (v := v) (o := mA f) (by rw [← l]; exact hr f)
  have J : PySem.W.InstAt s1.heap a oe C (some od) := ⟨ha, hz.1, by unfold PySem.W.notCls; rw [hd] <;> rfl, by rw [hz.2]; exact ho⟩
  exact HandSPX.exc_get I1.kIn J T.ga T.gg T.exC (PySem.W.findObj_own T.hdC hno rfl (by rw [hl, hu])) (handed_of ru) ⟨v, H1, I1.tok _, ru, q⟩
end Q41
set_option maxRecDepth 100000
set_option maxHeartbeats 4000000
/-! Own rules: isinstance of a kept exception that has its dict. -/
namespace Q41
open PySem PySem.Spec PySem.Calls PyProof.Rows
section
variable {prog : Program} {w : World} {A : Around} {E : Value → Shared → Prop} {s : Shared} {K : PySem.W.Frag} {x D : Addr} {ox : Obj} {od : Option Obj}
theorem fobj_data {C : Addr} {name : Str} {a g : Value} (hc : (PySem.W.clsIn K C).isSome = true) (ha : PySem.W.findIn K (.ref C) name = some (some a)) (hg : PySem.W.specialIn K a "__get__" = some (some g)) (ht : PySem.W.takesIn K a = some true) : PySem.W.findObj K C od name = some (.bind g a) := by
  obtain ⟨cd, hc⟩ := Option.isSome_iff_exists.mp hc
  unfold PySem.W.findObj
  rw [hc, Option.bind_some, ha, Option.bind_some]
  simp only [hg, ht, Option.bind_some]
theorem class_of_exc {Q : Option Value → Shared → Prop} (T : L2.ExcC K D) (X : K.In s.heap) (I : PySem.W.InstAt s.heap x ox D od) (h : Q (some (.ref D)) { s with toks := s.toks + 1 }) : wpAny (model prog w) A (getAttr? (.ref x) "__class__") Q E s := by
  have hf : PySem.W.findObj K D od "__class__" = some (.bind (.builtin "getset_descriptor.__get__") (.builtin "object.__class__")) :=
    fobj_data (by obtain ⟨cd, hc, _⟩ := PySem.W.any_some T.hd; rw [hc] <;> rfl) T.ha T.hn T.ht
  obtain ⟨hp, g, d, t, os⟩ := s
  have LT := I.type (M := model prog w)
  have LG := PySem.W.looks_findIn (M := model prog w) X T.hg
  have LK := PySem.W.looks_findIn (M := model prog w) X T.hk
  have LF := PySem.W.looks_find (M := model prog w) X I hf
  have sub : PySem.W.Looks (model prog w) hp (isInstance (.ref x) (.type "BaseException")) true := LT.andThen (PySem.W.looks_subIn X T.hs)
  have e0 : (false && onTheHeap (Value.builtin "BaseException.__getattribute__")) = false := rfl
  have e2 : (Value.builtin "BaseException.__getattribute__" == Value.builtin "object.__getattribute__") = false := by decide +kernel
  have e1 : (onTheHeap (Value.ref D) && Value.builtin "BaseException.__getattribute__" == Value.builtin "object.__getattribute__") = false := by rw [e2] <;> rfl
  unfold getAttr? getAttrBy? getAttrBy
  refine wpAny_bind (wpAny_mkText (wpAny_bind (wpAny_attempt (wpAny_holding (wpAny_bind (LT.at (wpAny_bind (LG.at ?_))))))))
  show wpAny _ _ (if (onTheHeap (Value.ref D) && Value.builtin "BaseException.__getattribute__" == Value.builtin "object.__getattribute__") = true then _ else _) _ _ ⟨hp, g, d, t + 1, os⟩
  rw [e1, if_neg Bool.false_ne_true]
  unfold getAttrByItsOwn hookBefore
  refine wpAny_bind ?_
  rw [if_pos (show onTheHeap (Value.ref D) = true from rfl)]
  refine LK.at (wpAny_bind (wpAny_attempt (wpAny_holding ?_)))
  unfold callGetattribute
  rw [e0, if_neg Bool.false_ne_true]
  unfold boundAndCalled
  rw [PySem.F.excAttr_ValueError.ga.bind (.ref x)]
  refine wpAny_bind (wpAny_pure ?_)
  show wpAny _ _ (call (.builtin "BaseException.__getattribute__") [.ref x, .str "__class__" t]) _ _ ⟨hp, g, d, t + 1, os⟩
  refine wpAny_call (codeAny_call_builtin PySem.F.excAttr_ValueError.ga.plain PySem.F.entry_bexc_ga
    (@PySem.W.check_slot (model prog w) _ _ ⟨hp, g, d, t + 1, os⟩ "BaseException.__getattribute__" "BaseException" "__getattribute__" (.ref x) [.str "__class__" t] [] _ (by decide +kernel) (by decide +kernel) sub (PySem.F.args_bexc_ga (.ref x) (.str "__class__" t)) ?_))
  unfold Builtin.«object.__getattribute__»
  refine wpAny_bind (wpAny_of_eq (a := ((Value.ref x : Value), [Value.str "__class__" t])) (by first | rfl | (simp only [slotArgs] <;> rfl)) ?_)
  refine wpAny_bind (wpAny_pure (wpAny_bind (LT.at (wpAny_bind (LF.at ?_)))))
  show wpAny _ _ (holding [Value.builtin "object.__class__"] (call (.builtin "getset_descriptor.__get__") [.builtin "object.__class__", .ref x, .ref D]) >>= ret) _ _ ⟨hp, g, d, t + 1, os⟩
  refine wpAny_bind (wpAny_holding (wpAny_call (PySem.W.class_get (s := ⟨hp, g, d, t + 1, os⟩) (ox := ox) (od := od) X I T.hm ?_)))
  refine wpAny_pure ?_
  show wpAny _ _ (handedOut (.ref D)) _ _ ⟨hp, g, d, t + 1, os⟩
  rw [PySem.W.handedOut_of (v := .ref D) rfl]
  first
    | exact wpAny_pure (wpAny_pure h)
    | exact wpAny_pure h
    | exact wpAny_pure (wpAny_bind (wpAny_pure (wpAny_pure h)))
theorem cls_there (T : L2.ExcC K D) : ∃ cls dd cd sl, K.lookup D = some ⟨cls, dd, .cls cd, sl⟩ := by
  obtain ⟨cd, hc, _⟩ := PySem.W.any_some T.hd
  unfold PySem.W.clsIn at hc
  split at hc
  · exact ⟨_, _, _, _, by assumption⟩
  · cases hc
theorem kit_exc (T : L2.ExcC K D) : PySem.W.KitX K (.ref x) (.ref D) (fun h => PySem.W.InstAt h x ox D od) where
  ty := fun _ _ _ I => I.type
  it := fun _ _ X _ => by
    obtain ⟨_, _, cd, _, ho⟩ := cls_there T
    intro A1 Q1 E1 s1 k q
    unfold isType loadHead
    exact wpAny_bind (wpAny_loadPart (k _ _ (X _ _ ho)) (wpAny_pure q))
  ne := fun h tp dd its n sl X htp => by
    obtain ⟨_, _, cd, _, ho⟩ := cls_there T
    refine Bool.eq_false_iff.mpr fun q => ?_
    have e : D = tp := Value.ref.inj (beq_iff_eq.mp q)
    rw [← e, X _ _ ho] at htp
    cases htp
  ca := fun X I k => class_of_exc T X I k
end
open L2
/-- isinstance(e, c) -/
def rIsK (K : PySem.W.Frag) (D : Addr) : List V → Hp → VK → Prop := fun xs H Q => ∃ (a dd : Addr) (fs : List (Str × V)) (c : V) (cv : Value) (b : Bool), xs = [.ref a, c] ∧ ClsV c cv ∧ H a = some (exk a (.ref D) (some dd)) ∧ H dd = some (.xd fs) ∧ PySem.W.kitOne K (.ref D) cv = some b ∧ Q (.bl b) H
theorem call_isK {X : Cx} {D : Addr} (T : ExcC X.K D) : CallR X (.builtin "isinstance") (rIsK X.K D) := by
  intro pins s σ H xs us Q I r h
  obtain ⟨a, dd, fs, c, cv, b, rfl, hcv, ea, ed, e, q⟩ := h
  obtain ⟨u1, u2, rfl, r1, r2⟩ := vals2 r
  obtain rfl : u1 = Value.ref a := r1
  have e2 := hcv.eq r2
  subst e2
  obtain ⟨oe, vs, ha, hz, hd⟩ := exk_at I.hok ea
  obtain ⟨mA, ⟨od, es, ep, ho, hrest⟩, hr⟩ := (show ObjOk X.prog X.w H s.heap dd (.xd fs) from I.hok dd _ ed)
  have J : PySem.W.InstAt s.heap a oe D (some od) := ⟨ha, hz.1, by unfold PySem.W.notCls; rw [hd] <;> rfl, by rw [hz.2]; exact ho⟩
  exact PySem.W.kia_one (kit_exc T) I.kIn J e (fun z => nomatch z) fun tk => ⟨.bl b, H, I.kept (t' := tk) fun _ _ z => z, rfl, q⟩
end Q41
set_option maxRecDepth 100000
set_option maxHeartbeats 4000000
/-! Own rules: != of two lists of a text and the same object. -/
namespace Q41
open PySem PySem.Spec PyProof.Rows L2
/-- != of two lists [word, the object at r] -/
def rNeSame : R2 := fun x y H Q => ∃ (a b r : Addr) (z : Str), x = .ref a ∧ y = .ref b ∧ H a = some (.lst [.str z, .ref r]) ∧ H b = some (.lst [.str z, .ref r]) ∧ Q (.bl false) H
theorem op_neSame {X : Cx} (hu : X.A.units < cLine) : OpR X (compareOp .NotEq) rNeSame := by
  intro pins s σ H x y v u Q I rx ry h
  obtain ⟨a, b, r, z, rfl, rfl, ha, hb, q⟩ := h
  obtain rfl : v = Value.ref a := rx
  obtain rfl : u = Value.ref b := ry
  obtain ⟨_, its, n, r1, e1⟩ := (show ObjOk X.prog X.w H s.heap a (.lst _) from I.hok a _ ha)
  obtain ⟨_, its2, n2, r2, e2⟩ := (show ObjOk X.prog X.w H s.heap b (.lst _) from I.hok b _ hb)
  obtain ⟨u1, u2, rfl, s1, s2⟩ := vals2 r1
  obtain ⟨v1, v2, rfl, t1, t2⟩ := vals2 r2
  obtain ⟨k1, rfl⟩ : ∃ t, u1 = Value.str z t := s1
  obtain ⟨k2, rfl⟩ : ∃ t, v1 = Value.str z t := t1
  obtain rfl : u2 = Value.ref r := s2
  obtain rfl : v2 = Value.ref r := t2
  have hl : s.heap.IsList a #[Value.str z k1, Value.ref r] := ⟨_, e1, rfl, n, rfl⟩
  have hl2 : s.heap.IsList b #[Value.str z k2, Value.ref r] := ⟨_, e2, rfl, n2, rfl⟩
  refine SeqAt.RcNeAt.lists (e := fun _ => true) hl hl2 rfl hu (fun j h1 h2 => ?_) X.prog X.w X.xe _ ?_
  · match j, h1, h2 with
    | 0, _, _ =>
      have e := SeqAt.EqAt.str_str (A := X.A.in1) (s := s) z k1 z k2
      simpa using e
    | 1, _, _ => exact SeqAt.EqAt.same _
  · exact ⟨.bl false, H, I, rfl, q⟩
end Q41
set_option maxRecDepth 100000
set_option maxHeartbeats 4000000
/-! The text by places; what is known of it behind the top. -/
namespace Q41
open PySem PySem.Spec PyProof.Rows L2
abbrev prg : Program := PySem.Challenge.pw_layoutsets_k41_whole_documents_of_a_desk
def top (i : Nat) : Stmt := prg.main.body.getD i (.Pass ⟨0, 0, 0, 0⟩)
def mem (i j : Nat) : Stmt := inClass (top i) j
def fdOf (K : PySem.W.Frag) (f : Addr) : FuncData := match K.lookup f with
  | some ⟨_, _, .func fd, _⟩ => fd
  | _ => PySem.W.fnOf "" "" (defArgs (.Pass ⟨0, 0, 0, 0⟩)) [] (defScope (.Pass ⟨0, 0, 0, 0⟩)) .none .none .none .none none .none .none
theorem fdOf_eq {K : PySem.W.Frag} {x qual : Str} {params : Arguments} {body : List Stmt} {scope : Scope} {dvs : List V} {kws : List (Str × V)} {f : Addr} {fd : FuncData} (F : FunD K x qual params body scope dvs kws f fd) : fd = fdOf K f := by
  obtain ⟨oc, od, dV, kV, doc, pm, an, cdv, ct, osl, e, lk, _⟩ := F.ex
  unfold fdOf
  rw [lk]
/-- the def st stands at f -/
abbrev DefAt (K : PySem.W.Frag) (x qual : Str) (st : Stmt) (dvs : List V) (f : Addr) : Prop := FunD K x qual (defArgs st) (defBody st) (defScope st) dvs [] f (fdOf K f)
/-- a def of the module -/
structure TopDef (K : PySem.W.Frag) (mg : Str → Option Value) (x : Str) (st : Stmt) (dvs : List V) (f : Addr) : Prop where
  g : mg x = some (.ref f)
  d : DefAt K x x st dvs f
end Q41
set_option maxRecDepth 100000
set_option maxHeartbeats 4000000
/-! Words for the walks. -/
namespace Q41
open PySem PySem.Spec PyProof.Rows L2
theorem mkBlk {N : List Str} {sc scope : Scope} {own : List (Str × Nat)} (h1 : scope.kind = .function := by rfl) (h2 : ∀ y ∈ scope.names, scope.names.lookup y.1 = some y.2 := by decide +kernel) (h3 : ∀ p ∈ own, N[p.2]? = some p.1 := by decide +kernel)
    (h4 : ∀ y ∈ scope.names, y.2 = .free → sc.names.lookup y.1 = some .cell ∨ sc.names.lookup y.1 = some .free := by decide +kernel) (h5 : ∀ y ∈ scope.names, y.2 = .local ∨ y.2 = .cell → y.1 ∈ own.map (·.1) ∨ y.1 ∉ N := by decide +kernel) : BlkOk N sc scope own :=
  ⟨h1, h2, h3, h4, h5⟩
theorem mkScope {N P : List Str} {sc : Scope} (h1 : sc.kind = .function := by rfl) (h2 : sc.isCoroutine = false := by rfl) (h3 : sc.isGenerator = false := by rfl) (h4 : N.Nodup := by decide +kernel) (h5 : N.take P.length = P := by rfl)
    (h6 : ∀ x ∈ P, sc.names.lookup x = some .local ∨ sc.names.lookup x = some .cell := by decide +kernel) (h7 : ∀ y ∈ sc.names, y.2 ≠ .free := by decide +kernel) : FnScope N P sc := ⟨h1, h2, h3, h4, h5, h6, h7⟩
theorem _root_.L2.Same.upd {H : Hp} {p : Addr} {o : HO} (h : H p = none) : Same H (L2.upd H p o) := fun a u e => by
  rw [upd_ne (ne_of_none e h)]
  exact e
theorem _root_.L2.Same.upd2 {H H1 : Hp} {p : Addr} {o : HO} (x : Same H H1) (h : H1 p = none) : Same H (L2.upd H1 p o) := x.trans (Same.upd h)
/-- written at p, which the older heap did not know -/
theorem _root_.L2.Same.over {H H1 : Hp} {p : Addr} {o : HO} (x : Same H H1) (h : H p = none) : Same H (L2.upd H1 p o) := fun a u e => by
  rw [upd_ne (ne_of_none e h)]
  exact x a u e
theorem _root_.L2.Same.fresh {H H1 : Hp} {p : Addr} (x : Same H H1) (h : H1 p = none) : H p = none := x.free h
theorem _root_.L2.Same.seqT {K : PySem.W.Frag} {H H' : Hp} {a : Addr} {xs : List V} (e : Same H H') (h : SqT K H a xs) : SqT K H' a xs := by
  rcases h with (h | ⟨o, h⟩) | h
  · exact .inl (.inl (e _ _ h))
  · exact .inl (.inr ⟨o, e _ _ h⟩)
  · exact .inr h
theorem _root_.L2.Same.rd {H H' : Hp} {a : Addr} {u : HO} (e : Same H H') (h : Rd H a u) : Rd H' a u := by
  rcases h with h | ⟨o, h⟩
  · exact .inl (e _ _ h)
  · exact .inr ⟨o, e _ _ h⟩
theorem sqL_of {K : PySem.W.Frag} {H : Hp} {a : Addr} {xs : List V} (h : H a = some (.lst xs)) : SqL K H a xs := .inl (.inl h)
theorem sqT_of {K : PySem.W.Frag} {H : Hp} {a : Addr} {xs : List V} (h : H a = some (.tup xs)) : SqT K H a xs := .inl (.inl h)
/-- a list comprehension whose turns only make objects: the items, each kept as f says -/
theorem lc_same {J : It} {n : Nat} {G : Hp → Prop} {Y : Nat → Hp → V → Hp → Prop} (w : Walk J n G Y) {xs : List V} {g : TG} {tt : TT} {te : TE} {vs : List Nat} {σ : L2.St} {H1 : Hp} {D : Addr} {Qd : Hp → Prop} (f : V → Option V)
    (hn : xs.length = n) (hz : n < 10000) (hD : H1 D = none) (hG : ∀ H, Same H1 H → G H) (hY : ∀ i H x H', Y i H x H' → H' = H ∧ xs[i]? = some x)
    (hs : ∀ x ∈ xs, ∀ H, Same H1 H → ∀ Q : Option V → Hp → Prop, (∀ H', Same H H' → Q (f x) H') → g x (wipe σ vs) H fun σ2 H2 => wipe σ2 vs = wipe σ vs ∧ tt σ2 H2 fun b H3 => if b = true then te σ2 H3 fun y H4 => Q (some y) H4 else Q none H3)
    (hd : ∀ H, Same H1 H → H D = some (.lst (xs.filterMap f)) → Qd H) :
    ∃ W : Nat → Nat → Hp → Prop, (∃ m, W 0 m (upd H1 D (.lst []))) ∧ ∀ i m H, W i m H →
      (J.stop i H ∧ Qd H) ∨ (J.go i H ∧ ∃ Nx : Hp → Prop, (∀ H', Nx H' → ∃ m', m' < m ∧ W (i + 1) m' H') ∧ ∀ x H', J.yld i H x H' → g x (wipe σ vs) H' fun σ2 H2 => wipe σ2 vs = wipe σ vs ∧ tt σ2 H2 fun b H3 =>
        if b = true then te σ2 H3 fun y H4 => ∃ acc, H4 D = some (.lst acc) ∧ acc.length < sizeLine ∧ Nx (upd H4 D (.lst (acc ++ [y]))) else Nx H3) := by
  refine lc_it w (fun i H => Same H1 H ∧ H D = some (.lst ((xs.take i).filterMap f))) ⟨Same.upd hD, upd_same⟩ (fun i H _ h => hG H h.1) (fun i x H H' hi ⟨h1, h2⟩ y => ?_) fun H ⟨h1, h2⟩ => ?_
  · obtain ⟨rfl, hx⟩ := hY i H x H' y
    have hl : ((xs.take i).filterMap f).length < sizeLine := by
      have := List.length_filterMap_le f (xs.take i)
      rw [List.length_take] at this
      rw [sizeLine_eq]
      omega
    have ht : (xs.take (i + 1)).filterMap f = (xs.take i).filterMap f ++ (f x).toList := by
      rw [List.take_add_one, hx, List.filterMap_append]
      simp only [Option.toList_some, List.filterMap_cons, List.filterMap_nil]
      cases f x <;> rfl
    refine hs x (List.mem_of_getElem? hx) H' h1 (fun o H4 => match o with
      | some y => ∃ acc, H4 D = some (.lst acc) ∧ acc.length < sizeLine ∧ (Same H1 (upd H4 D (.lst (acc ++ [y]))) ∧ (upd H4 D (.lst (acc ++ [y]))) D = some (.lst ((xs.take (i + 1)).filterMap f)))
      | none => Same H1 H4 ∧ H4 D = some (.lst ((xs.take (i + 1)).filterMap f))) fun H4 s4 => ?_
    cases hf : f x with
    | some y => exact ⟨_, s4 _ _ h2, hl, (h1.trans s4).over hD, by rw [upd_same, ht, hf] <;> rfl⟩
    | none => exact ⟨h1.trans s4, by rw [ht, hf, s4 _ _ h2]; simp⟩
  · refine hd H h1 ?_
    rw [← hn, List.take_length] at h2
    exact h2
theorem ifT {c : Bool} {A B : Prop} (h : c = true) (a : A) : if c = true then A else B := by
  rw [if_pos h]
  exact a
theorem ifF {c : Bool} {A B : Prop} (h : c = false) (b : B) : if c = true then A else B := by
  rw [h, if_neg Bool.false_ne_true]
  exact b
theorem yat {xs : List V} : ∀ (i : Nat) (H : Hp) (x : V) (H' : Hp), YAt xs i H x H' → H' = H ∧ xs[i]? = some x := fun _ _ _ _ h => h
end Q41
set_option maxRecDepth 100000
set_option maxHeartbeats 4000000
/-! Plain mathematics 1: texts in order, forms. -/
namespace Q41
open PySem PySem.Spec PyProof.Rows
theorem ltC_self : ∀ a : List Nat, ltCps a a = false
  | [] => rfl
  | a :: r => by simp [ltCps, ltC_self r]
theorem ltC_le_trans : ∀ a b c : List Nat, ltCps b a = false → ltCps c b = false → ltCps c a = false
  | [], _, [], _, _ => rfl
  | [], [], _ :: _, _, h => h
  | [], _ :: _, _ :: _, h, h2 => rfl
  | _ :: _, [], _, h, _ => by simp [ltCps] at h
  | _ :: _, _ :: _, [], _, h => by simp [ltCps] at h
  | a :: r, b :: s, c :: t, h1, h2 => by
    simp only [ltCps, Bool.or_eq_false_iff, decide_eq_false_iff_not, Nat.not_lt, Bool.and_eq_false_iff, beq_eq_false_iff_ne] at h1 h2 ⊢
    refine ⟨Nat.le_trans h1.1 h2.1, ?_⟩
    by_cases e : c = a
    · right
      have e1 : b = a := by omega
      have e2 : c = b := by omega
      exact ltC_le_trans r s t (h1.2.resolve_left (fun n => n e1)) (h2.2.resolve_left (fun n => n e2))
    · exact .inl e
theorem ltC_antisymm : ∀ a b : List Nat, ltCps b a = false → ltCps a b = false → a = b
  | [], [], _, _ => rfl
  | [], _ :: _, _, h => by simp [ltCps] at h
  | _ :: _, [], h, _ => by simp [ltCps] at h
  | a :: r, b :: s, h1, h2 => by
    simp only [ltCps, Bool.or_eq_false_iff, decide_eq_false_iff_not, Nat.not_lt, Bool.and_eq_false_iff, beq_eq_false_iff_ne] at h1 h2
    have e : a = b := by omega
    subst e
    rw [ltC_antisymm r s (h1.2.resolve_left (fun n => n rfl)) (h2.2.resolve_left (fun n => n rfl))]
theorem ltC_total : ∀ a b : List Nat, ltCps a b = true → ltCps b a = false
  | [], [], h => by simp [ltCps] at h
  | [], _ :: _, _ => rfl
  | _ :: _, [], h => by simp [ltCps] at h
  | a :: r, b :: s, h => by
    simp only [ltCps, Bool.or_eq_true, decide_eq_true_eq, Bool.and_eq_true, beq_iff_eq] at h
    simp only [ltCps, Bool.or_eq_false_iff, decide_eq_false_iff_not, Nat.not_lt, Bool.and_eq_false_iff, beq_eq_false_iff_ne]
    rcases h with h | ⟨rfl, h⟩
    · exact ⟨by omega, .inl (by omega)⟩
    · exact ⟨Nat.le_refl _, .inr (ltC_total r s h)⟩
def leS (a b : Str) : Prop := ltCps b.cps.toList a.cps.toList = false
instance : DecidableRel leS := fun a b => inferInstanceAs (Decidable (_ = _))
theorem leS_refl (a : Str) : leS a a := ltC_self _
theorem leS_trans {a b c : Str} (h : leS a b) (k : leS b c) : leS a c := ltC_le_trans _ _ _ h k
theorem leS_antisymm {a b : Str} (h : leS a b) (k : leS b a) : a = b := by
  have e := ltC_antisymm _ _ h k
  obtain ⟨⟨x⟩⟩ := a
  obtain ⟨⟨y⟩⟩ := b
  simp only at e
  rw [e]
theorem leS_total (a b : Str) : leS a b ∨ leS b a := by
  unfold leS
  cases h : ltCps b.cps.toList a.cps.toList with
  | false => exact .inl rfl
  | true => exact .inr (ltC_total _ _ h)
theorem rising_iff : ∀ (l : List Str) (p : Str), risingS p l = true ↔ (p :: l).Pairwise leS
  | [], p => by simp [risingS]
  | x :: r, p => by
    rw [risingS, Bool.and_eq_true, rising_iff r x]
    constructor
    · rintro ⟨h1, h2⟩
      have h1 : leS p x := by simpa [leS] using h1
      refine .cons (fun y hy => ?_) h2
      rcases List.mem_cons.mp hy with rfl | hy
      · exact h1
      · exact leS_trans h1 (List.rel_of_pairwise_cons h2 hy)
    · intro h
      obtain ⟨h1, h2⟩ := List.pairwise_cons.mp h
      have := h1 x List.mem_cons_self
      exact ⟨by simpa [leS] using this, h2⟩
theorem sortedS_iff : ∀ l : List Str, sortedS l = true ↔ l.Pairwise leS
  | [] => by simp [sortedS]
  | x :: r => rising_iff r x
theorem srt_unique : ∀ {xs ys : List Str}, xs.Pairwise leS → ys.Pairwise leS → xs.Nodup → ys.Nodup → (∀ x, x ∈ xs ↔ x ∈ ys) → xs = ys
  | [], [], _, _, _, _, _ => rfl
  | [], y :: _, _, _, _, _, h => by have := (h y).mpr List.mem_cons_self; simp at this
  | x :: _, [], _, _, _, _, h => by have := (h x).mp List.mem_cons_self; simp at this
  | x :: r, y :: s, hx, hy, nx, ny, h => by
    obtain ⟨x1, x2⟩ := List.pairwise_cons.mp hx
    obtain ⟨y1, y2⟩ := List.pairwise_cons.mp hy
    obtain ⟨n1, n2⟩ := List.nodup_cons.mp nx
    obtain ⟨m1, m2⟩ := List.nodup_cons.mp ny
    have e : x = y := by
      rcases List.mem_cons.mp ((h y).mpr List.mem_cons_self) with e | e
      · exact e.symm
      · rcases List.mem_cons.mp ((h x).mp List.mem_cons_self) with f | f
        · exact f
        · exact leS_antisymm (x1 y e) (y1 x f)
    subst e
    rw [srt_unique x2 y2 n2 m2 fun z => ?_]
    constructor
    · intro hz
      rcases List.mem_cons.mp ((h z).mp (List.mem_cons_of_mem _ hz)) with rfl | k
      · exact absurd hz n1
      · exact k
    · intro hz
      rcases List.mem_cons.mp ((h z).mpr (List.mem_cons_of_mem _ hz)) with rfl | k
      · exact absurd hz m1
      · exact k
/-- put in its place -/
def insS (x : Str) : List Str → List Str
  | [] => [x]
  | y :: r => if x = y then y :: r else if leS x y then x :: y :: r else y :: insS x r
theorem insS_mem (x z : Str) : ∀ l, z ∈ insS x l ↔ z = x ∨ z ∈ l
  | [] => by simp [insS]
  | y :: r => by
    unfold insS
    split
    · rename_i e
      subst e
      simp
    · split
      · simp
      · simp only [List.mem_cons, insS_mem x z r]
        constructor
        · rintro (h | h | h)
          · exact .inr (.inl h)
          · exact .inl h
          · exact .inr (.inr h)
        · rintro (h | h | h)
          · exact .inr (.inl h)
          · exact .inl h
          · exact .inr (.inr h)
theorem insS_ok (x : Str) : ∀ l : List Str, l.Pairwise leS → l.Nodup → (insS x l).Pairwise leS ∧ (insS x l).Nodup
  | [], _, _ => by simp [insS]
  | y :: r, h, n => by
    obtain ⟨h1, h2⟩ := List.pairwise_cons.mp h
    obtain ⟨n1, n2⟩ := List.nodup_cons.mp n
    unfold insS
    split
    · exact ⟨h, n⟩
    · rename_i ne
      split
      · rename_i le
        refine ⟨.cons (fun z hz => ?_) h, List.nodup_cons.mpr ⟨fun hz => ?_, n⟩⟩
        · rcases List.mem_cons.mp hz with rfl | hz
          · exact le
          · exact leS_trans le (h1 z hz)
        · rcases List.mem_cons.mp hz with e | hz
          · exact ne e
          · exact ne (leS_antisymm le (h1 x hz))
      · rename_i le
        have le : leS y x := (leS_total x y).resolve_left le
        obtain ⟨i1, i2⟩ := insS_ok x r h2 n2
        refine ⟨.cons (fun z hz => ?_) i1, List.nodup_cons.mpr ⟨fun hz => ?_, i2⟩⟩
        · rcases (insS_mem x z r).mp hz with rfl | hz
          · exact le
          · exact h1 z hz
        · rcases (insS_mem x y r).mp hz with e | hz
          · exact ne e.symm
          · exact n1 hz
/-- in order, each once -/
def nrm (l : List Str) : List Str := l.foldr insS []
theorem nrm_ok : ∀ l : List Str, (nrm l).Pairwise leS ∧ (nrm l).Nodup ∧ ∀ z, z ∈ nrm l ↔ z ∈ l
  | [] => ⟨.nil, .nil, fun _ => Iff.rfl⟩
  | x :: l => by
    obtain ⟨h1, h2, h3⟩ := nrm_ok l
    obtain ⟨i1, i2⟩ := insS_ok x (nrm l) h1 h2
    refine ⟨i1, i2, fun z => ?_⟩
    show z ∈ insS x (nrm l) ↔ _
    rw [insS_mem, h3, List.mem_cons]
theorem nrm_mem {l : List Str} {z : Str} : z ∈ nrm l ↔ z ∈ l := (nrm_ok l).2.2 z
theorem nrm_nodup (l : List Str) : (nrm l).Nodup := (nrm_ok l).2.1
theorem nrm_sorted (l : List Str) : sortedS (nrm l) = true := (sortedS_iff _).mpr (nrm_ok l).1
theorem nrm_eq {ys l : List Str} (h : sortedS ys = true) (n : ys.Nodup) (m : ∀ x, x ∈ ys ↔ x ∈ l) : ys = nrm l :=
  srt_unique ((sortedS_iff _).mp h) (nrm_ok l).1 n (nrm_nodup l) fun x => (m x).trans nrm_mem.symm
theorem nrm_congr {l l' : List Str} (m : ∀ x, x ∈ l ↔ x ∈ l') : nrm l = nrm l' := nrm_eq (nrm_sorted l) (nrm_nodup l) fun x => nrm_mem.trans (m x)
theorem nrm_self {l : List Str} (h : sortedS l = true) (n : l.Nodup) : nrm l = l := (nrm_eq h n fun _ => Iff.rfl).symm
theorem sorted_filter {l : List Str} (p : Str → Bool) (h : sortedS l = true) : sortedS (l.filter p) = true := (sortedS_iff _).mpr (((sortedS_iff _).mp h).filter p)
theorem perm_nrm {ys ks : List Str} (p : ys.Perm ks) (h : sortedS ys = true) (n : ks.Nodup) : ys = nrm ks := nrm_eq h (p.nodup_iff.mpr n) fun x => p.mem_iff
theorem nrm_length {l : List Str} : (nrm l).length ≤ l.length := by
  have ins : ∀ (x : Str) (l : List Str), (insS x l).length ≤ l.length + 1 := by
    intro x l
    induction l with
    | nil => simp [insS]
    | cons y r ih =>
      unfold insS
      split
      · simp
      · split
        · simp
        · simp only [List.length_cons]
          omega
  induction l with
  | nil => exact Nat.le_refl _
  | cons x l ih =>
    show (insS x (nrm l)).length ≤ l.length + 1
    have := ins x (nrm l)
    omega
/-! ### forms -/
inductive Fm where
  | txt (s : Str)
  | brk (s : Option Str)
  | hol (n : Str)
  | joi (a b : Fm)
  | cho (a b : Fm)
  | nes (k : Int) (a : Fm)
  | grp (a : Fm)
  | fla (a : Fm)
namespace Fm
def holes : Fm → List Str
  | .hol n => [n]
  | .joi a b => a.holes ++ b.holes
  | .cho a b => a.holes ++ b.holes
  | .nes _ a => a.holes
  | .grp a => a.holes
  | .fla a => a.holes
  | _ => []
def inner : Fm → List Fm
  | .joi a b => [a, b]
  | .cho a b => [a, b]
  | .nes _ a => [a]
  | .grp a => [a]
  | .fla a => [a]
  | _ => []
def size : Fm → Nat
  | .joi a b => a.size + b.size + 1
  | .cho a b => a.size + b.size + 1
  | .nes _ a => a.size + 1
  | .grp a => a.size + 1
  | .fla a => a.size + 1
  | _ => 1
def depth : Fm → Nat
  | .joi a b => max a.depth b.depth + 1
  | .cho a b => max a.depth b.depth + 1
  | .nes _ a => a.depth + 1
  | .grp a => a.depth + 1
  | .fla a => a.depth + 1
  | _ => 0
def fill (g : Str → Option Fm) : Fm → Fm
  | .hol n => (g n).getD (.hol n)
  | .joi a b => .joi (a.fill g) (b.fill g)
  | .cho a b => .cho (a.fill g) (b.fill g)
  | .nes k a => .nes k (a.fill g)
  | .grp a => .grp (a.fill g)
  | .fla a => .fla (a.fill g)
  | f => f
theorem fill_congr {g g' : Str → Option Fm} : ∀ f : Fm, (∀ h ∈ f.holes, g h = g' h) → f.fill g = f.fill g'
  | .txt _, _ => rfl
  | .brk _, _ => rfl
  | .hol n, h => by simp only [fill, h n (by simp [holes])]
  | .joi a b, h => by rw [fill, fill, fill_congr a fun x hx => h x (by simp [holes, hx]), fill_congr b fun x hx => h x (by simp [holes, hx])]
  | .cho a b, h => by rw [fill, fill, fill_congr a fun x hx => h x (by simp [holes, hx]), fill_congr b fun x hx => h x (by simp [holes, hx])]
  | .nes k a, h => by rw [fill, fill, fill_congr a fun x hx => h x (by simp [holes, hx])]
  | .grp a, h => by rw [fill, fill, fill_congr a fun x hx => h x (by simp [holes, hx])]
  | .fla a, h => by rw [fill, fill, fill_congr a fun x hx => h x (by simp [holes, hx])]
theorem fill_depth {g : Str → Option Fm} {d : Nat} : ∀ f : Fm, (∀ h ∈ f.holes, ∀ k, g h = some k → k.depth ≤ d) → (f.fill g).depth ≤ f.depth + d
  | .txt _, _ => Nat.zero_le _
  | .brk _, _ => Nat.zero_le _
  | .hol n, h => by
    unfold fill
    cases e : g n with
    | none => simp [depth]
    | some k => simpa [depth] using h n (by simp [holes]) k e
  | .joi a b, h => by
    have h1 := fill_depth a fun x hx => h x (by simp [holes, hx])
    have h2 := fill_depth b fun x hx => h x (by simp [holes, hx])
    simp only [fill, depth]
    omega
  | .cho a b, h => by
    have h1 := fill_depth a fun x hx => h x (by simp [holes, hx])
    have h2 := fill_depth b fun x hx => h x (by simp [holes, hx])
    simp only [fill, depth]
    omega
  | .nes k a, h => by
    have h1 := fill_depth a fun x hx => h x (by simp [holes, hx])
    simp only [fill, depth]
    omega
  | .grp a, h => by
    have h1 := fill_depth a fun x hx => h x (by simp [holes, hx])
    simp only [fill, depth]
    omega
  | .fla a, h => by
    have h1 := fill_depth a fun x hx => h x (by simp [holes, hx])
    simp only [fill, depth]
    omega
theorem size_pos (f : Fm) : 1 ≤ f.size := by cases f <;> simp [size]
theorem inner_size (f : Fm) : (f.inner.map size).sum + 1 = f.size := by cases f <;> simp [inner, size]
theorem inner_holes (f : Fm) : (∃ n, f = .hol n ∧ f.holes = [n] ∧ f.inner = []) ∨ ((∀ n, f ≠ .hol n) ∧ ∀ x, x ∈ f.holes ↔ ∃ p ∈ f.inner, x ∈ p.holes) := by
  cases f with
  | hol n => exact .inl ⟨n, rfl, rfl, rfl⟩
  | _ =>
    right
    refine ⟨(fun n e => by cases e), fun x => ?_⟩
    simp [holes, inner]
theorem inner_depth {f p : Fm} (h : p ∈ f.inner) : p.depth < f.depth := by
  cases f <;> simp [inner] at h <;> (try rcases h with rfl | rfl) <;> (try subst h) <;> simp only [depth] <;> omega
theorem holes_size (f : Fm) : f.holes.length ≤ f.size := by
  induction f <;> simp only [holes, size, List.length_append, List.length_cons, List.length_nil] <;> omega
def size_depth : ∀ f : Fm, f.size + 1 ≤ 2 ^ (f.depth + 1)
  | .txt _ => by simp [size, depth]
  | .brk _ => by simp [size, depth]
  | .hol _ => by simp [size, depth]
  | .joi a b => by
    have h1 := size_depth a
    have h2 := size_depth b
    have e1 : 2 ^ (a.depth + 1) ≤ 2 ^ (max a.depth b.depth + 1) := Nat.pow_le_pow_right (by decide) (by omega)
    have e2 : 2 ^ (b.depth + 1) ≤ 2 ^ (max a.depth b.depth + 1) := Nat.pow_le_pow_right (by decide) (by omega)
    simp only [size, depth]
    rw [Nat.pow_succ 2 (max a.depth b.depth + 1)]
    omega
  | .cho a b => by
    have h1 := size_depth a
    have h2 := size_depth b
    have e1 : 2 ^ (a.depth + 1) ≤ 2 ^ (max a.depth b.depth + 1) := Nat.pow_le_pow_right (by decide) (by omega)
    have e2 : 2 ^ (b.depth + 1) ≤ 2 ^ (max a.depth b.depth + 1) := Nat.pow_le_pow_right (by decide) (by omega)
    simp only [size, depth]
    rw [Nat.pow_succ 2 (max a.depth b.depth + 1)]
    omega
  | .nes k a => by
    have h1 := size_depth a
    simp only [size, depth]
    rw [Nat.pow_succ 2 (a.depth + 1)]
    omega
  | .grp a => by
    have h1 := size_depth a
    simp only [size, depth]
    rw [Nat.pow_succ 2 (a.depth + 1)]
    omega
  | .fla a => by
    have h1 := size_depth a
    simp only [size, depth]
    rw [Nat.pow_succ 2 (a.depth + 1)]
    omega
def data : Fm → PyData
  | .txt s => .tuple [.str "text", .str s]
  | .brk (some s) => .tuple [.str "break", .str s]
  | .brk none => .tuple [.str "break", .none]
  | .hol n => .tuple [.str "hole", .str n]
  | .joi a b => .tuple [.str "join", a.data, b.data]
  | .cho a b => .tuple [.str "choice", a.data, b.data]
  | .nes k a => .tuple [.str "nested", .int k, a.data]
  | .grp a => .tuple [.str "group", a.data]
  | .fla a => .tuple [.str "flattened", a.data]
end Fm
end Q41
set_option maxRecDepth 100000
set_option maxHeartbeats 4000000
/-! Plain mathematics 2: names, what leads where, filling, the order. -/
namespace Q41
open PySem PySem.Spec PyProof.Rows
abbrev Kp := List (Str × Fm)
def keys (M : Kp) : List Str := M.map (·.1)
theorem lookup_some {M : Kp} {n : Str} : (∃ f, M.lookup n = some f) ↔ n ∈ keys M := by
  induction M with
  | nil => simp [keys]
  | cons p M ih =>
    obtain ⟨m, f⟩ := p
    rw [List.lookup_cons]
    cases h : n == m with
    | true =>
      have e : n = m := by simpa using h
      simp [keys, e]
    | false =>
      have e : n ≠ m := by simpa using h
      simp only [keys, List.map_cons, List.mem_cons] at ih ⊢
      rw [ih]
      simp [keys, e]
theorem lookup_none {M : Kp} {n : Str} (h : n ∉ keys M) : M.lookup n = none := by
  cases e : M.lookup n with
  | none => rfl
  | some f => exact absurd (lookup_some.mp ⟨f, e⟩) h
def used (M : Kp) (n : Str) : List Str := match M.lookup n with
  | some f => (nrm f.holes).filter fun x => decide (x ∈ keys M)
  | none => []
theorem used_mem {M : Kp} {n x : Str} {f : Fm} (h : M.lookup n = some f) : x ∈ used M n ↔ x ∈ f.holes ∧ x ∈ keys M := by
  unfold used
  rw [h]
  simp [nrm_mem]
theorem used_keys {M : Kp} {n x : Str} (h : x ∈ used M n) : x ∈ keys M := by
  unfold used at h
  split at h
  · exact of_decide_eq_true (List.mem_filter.mp h).2
  · cases h
theorem used_ok (M : Kp) (n : Str) : sortedS (used M n) = true ∧ (used M n).Nodup := by
  unfold used
  split
  · exact ⟨sorted_filter _ (nrm_sorted _), (nrm_nodup _).filter _⟩
  · exact ⟨rfl, .nil⟩
inductive Reach (M : Kp) : Str → Str → Prop
  | one {x y} : y ∈ used M x → Reach M x y
  | more {x y z} : y ∈ used M x → Reach M y z → Reach M x z
theorem Reach.trans {M : Kp} {x y z : Str} (a : Reach M x y) (b : Reach M y z) : Reach M x z := by
  induction a with
  | one h => exact .more h b
  | more h _ ih => exact .more h (ih b)
theorem Reach.snoc {M : Kp} {x y z : Str} (a : Reach M x y) (b : z ∈ used M y) : Reach M x z := a.trans (.one b)
theorem Reach.keys {M : Kp} {x y : Str} (a : Reach M x y) : y ∈ keys M := by
  induction a with
  | one h => exact used_keys h
  | more _ _ ih => exact ih
/-- a set that holds what n uses, and what its own use -/
theorem Reach.closed {M : Kp} {n : Str} {l : List Str} (h0 : ∀ x ∈ used M n, x ∈ l) (hc : ∀ x ∈ l, ∀ y ∈ used M x, y ∈ l) {x : Str} (r : Reach M n x) : x ∈ l := by
  suffices h : ∀ {a b}, Reach M a b → (∀ y ∈ used M a, y ∈ l) → b ∈ l from h r h0
  intro a b r
  induction r with
  | one h => exact fun k => k _ h
  | more h _ ih => exact fun k => ih (hc _ (k _ h))
theorem sub_len {l m : List Str} : l.Nodup → (∀ x ∈ l, x ∈ m) → l.length ≤ m.length := by
  intro n h
  induction l generalizing m with
  | nil => exact Nat.zero_le _
  | cons x r ih =>
    obtain ⟨n1, n2⟩ := List.nodup_cons.mp n
    have hx := h x List.mem_cons_self
    have := ih (m := m.erase x) n2 fun y hy => (List.mem_erase_of_ne (fun e => n1 (by rw [← e]; exact hy))).mpr (h y (List.mem_cons_of_mem _ hy))
    rw [List.length_erase_of_mem hx] at this
    have := List.length_pos_of_mem hx
    simp only [List.length_cons]
    omega
theorem sub_all {l m : List Str} (n : l.Nodup) (h : ∀ x ∈ l, x ∈ m) (hl : m.length ≤ l.length) : ∀ x ∈ m, x ∈ l := by
  intro x hx
  by_cases hm : x ∈ l
  · exact hm
  · have := sub_len (l := x :: l) (m := m) (List.nodup_cons.mpr ⟨hm, n⟩) fun y hy => by
      rcases List.mem_cons.mp hy with rfl | hy
      · exact hx
      · exact h y hy
    simp only [List.length_cons] at this
    omega
def step (M : Kp) (l : List Str) : List Str := nrm (l ++ l.flatMap (used M))
def stepN (M : Kp) : Nat → List Str → List Str
  | 0, l => l
  | k + 1, l => step M (stepN M k l)
def ledL (M : Kp) (n : Str) : List Str := stepN M (keys M).length (used M n)
theorem step_mem {M : Kp} {l : List Str} {x : Str} : x ∈ step M l ↔ x ∈ l ∨ ∃ y ∈ l, x ∈ used M y := by
  unfold step
  rw [nrm_mem]
  simp
theorem stepN_ok (M : Kp) (n : Str) : ∀ k, sortedS (stepN M k (used M n)) = true ∧ (stepN M k (used M n)).Nodup ∧ ∀ x ∈ stepN M k (used M n), Reach M n x
  | 0 => ⟨(used_ok M n).1, (used_ok M n).2, fun x h => .one h⟩
  | k + 1 => by
    obtain ⟨_, _, h⟩ := stepN_ok M n k
    refine ⟨nrm_sorted _, nrm_nodup _, fun x hx => ?_⟩
    rcases step_mem.mp hx with hx | ⟨y, hy, hx⟩
    · exact h x hx
    · exact (h y hy).snoc hx
theorem stepN_sub (M : Kp) (l : List Str) : ∀ k, ∀ x ∈ l, x ∈ stepN M k l
  | 0, x, h => h
  | k + 1, x, h => step_mem.mpr (.inl (stepN_sub M l k x h))
def Closed (M : Kp) (l : List Str) : Prop := ∀ x ∈ l, ∀ y ∈ used M x, y ∈ l
theorem stepN_grow (M : Kp) (n : Str) : ∀ k, Closed M (stepN M k (used M n)) ∨ k ≤ (stepN M k (used M n)).length
  | 0 => .inr (Nat.zero_le _)
  | k + 1 => by
    have sub : ∀ x ∈ stepN M k (used M n), x ∈ stepN M (k + 1) (used M n) := fun x h => step_mem.mpr (.inl h)
    by_cases hc : Closed M (stepN M k (used M n))
    · left
      have back : ∀ x ∈ stepN M (k + 1) (used M n), x ∈ stepN M k (used M n) := fun x h => by
        rcases step_mem.mp h with h | ⟨y, hy, h⟩
        · exact h
        · exact hc y hy x h
      exact fun x hx y hy => sub y (hc x (back x hx) y hy)
    · right
      have hk := (stepN_grow M n k).resolve_left hc
      have ex : ∃ y, y ∉ stepN M k (used M n) ∧ y ∈ stepN M (k + 1) (used M n) := by
        apply Classical.byContradiction
        intro no
        apply hc
        intro x hx y hy
        apply Classical.byContradiction
        intro hn
        exact no ⟨y, hn, step_mem.mpr (.inr ⟨x, hx, hy⟩)⟩
      obtain ⟨y, hy, hz⟩ := ex
      have := sub_len (l := y :: stepN M k (used M n)) (m := stepN M (k + 1) (used M n)) (List.nodup_cons.mpr ⟨hy, (stepN_ok M n k).2.1⟩) fun x hx => by
        rcases List.mem_cons.mp hx with rfl | hx
        · exact hz
        · exact sub x hx
      simp only [List.length_cons] at this
      omega
theorem ledL_mem {M : Kp} {n x : Str} : x ∈ ledL M n ↔ Reach M n x := by
  constructor
  · exact (stepN_ok M n _).2.2 x
  · intro r
    refine r.closed (stepN_sub M _ _) ?_
    rcases stepN_grow M n (keys M).length with h | h
    · exact h
    · intro a ha y hy
      exact sub_all (stepN_ok M n _).2.1 (fun z hz => ((stepN_ok M n _).2.2 z hz).keys) h y (used_keys hy)
theorem ledL_ok (M : Kp) (n : Str) : sortedS (ledL M n) = true ∧ (ledL M n).Nodup := ⟨(stepN_ok M n _).1, (stepN_ok M n _).2.1⟩
theorem ledL_keys {M : Kp} {n x : Str} (h : x ∈ ledL M n) : x ∈ keys M := (ledL_mem.mp h).keys
theorem ledL_len {M : Kp} {n : Str} : (ledL M n).length ≤ (keys M).length := sub_len (ledL_ok M n).2 fun _ h => ledL_keys h
/-- the circular names that whole tells -/
def circ (M : Kp) (n : Str) : List Str := (nrm (n :: ledL M n)).filter fun x => decide (x ∈ ledL M x)
theorem circ_mem {M : Kp} {n x : Str} : x ∈ circ M n ↔ (x = n ∨ x ∈ ledL M n) ∧ x ∈ ledL M x := by simp [circ, nrm_mem]
theorem circ_of {M : Kp} {n : Str} {l : List Str} (h : ∀ x, x ∈ l ↔ (x = n ∨ x ∈ ledL M n) ∧ x ∈ ledL M x) : nrm l = circ M n :=
  (nrm_eq (sorted_filter _ (nrm_sorted _)) ((nrm_nodup _).filter _) fun x => circ_mem.trans (h x).symm).symm
/-! ### heights -/
def Ht (M : Kp) : Nat → Str → Prop
  | 0, _ => False
  | k + 1, n => ∀ h ∈ used M n, Ht M k h
theorem Ht.mono {M : Kp} : ∀ {j k : Nat} {n : Str}, j ≤ k → Ht M j n → Ht M k n
  | 0, _, _, _, h => h.elim
  | j + 1, 0, _, hl, _ => by omega
  | j + 1, k + 1, n, hl, h => fun x hx => (h x hx).mono (by omega)
theorem ht_of {M : Kp} {n : Str} (hn : n ∈ keys M) (ac : circ M n = []) : Ht M (keys M).length n := by
  have no : ∀ x, (x = n ∨ Reach M n x) → ¬ Reach M x x := fun x hx r => by
    have : x ∈ circ M n := circ_mem.mpr ⟨hx.imp id ledL_mem.mpr, ledL_mem.mpr r⟩
    rw [ac] at this
    cases this
  suffices h : ∀ (k : Nat) (p : List Str) (x : Str), p.Nodup → (∀ y ∈ p, y ∈ keys M ∧ (y = n ∨ Reach M n y) ∧ Reach M y x) → x ∈ keys M → (x = n ∨ Reach M n x) → (keys M).length ≤ k + p.length → Ht M k x from
    h _ [] n .nil (fun _ hy => nomatch hy) hn (.inl rfl) (by simp)
  intro k
  induction k with
  | zero =>
    intro p x np hp hx hr hl
    have nx : x ∉ p := fun hm => no x hr (hp x hm).2.2
    have := sub_len (l := x :: p) (m := keys M) (List.nodup_cons.mpr ⟨nx, np⟩) fun y hy => by
      rcases List.mem_cons.mp hy with rfl | hy
      · exact hx
      · exact (hp y hy).1
    simp only [List.length_cons] at this
    omega
  | succ k ih =>
    intro p x np hp hx hr hl h hh
    have nx : x ∉ p := fun hm => no x hr (hp x hm).2.2
    refine ih (x :: p) h (List.nodup_cons.mpr ⟨nx, np⟩) (fun y hy => ?_) (used_keys hh) (.inr ?_) (by simp only [List.length_cons]; omega)
    · rcases List.mem_cons.mp hy with rfl | hy
      · exact ⟨hx, hr, .one hh⟩
      · exact ⟨(hp y hy).1, (hp y hy).2.1, (hp y hy).2.2.snoc hh⟩
    · rcases hr with rfl | hr
      · exact .one hh
      · exact hr.snoc hh
/-! ### filling -/
def lf (M : Kp) : Nat → Fm → Fm
  | 0, f => f
  | k + 1, f => f.fill fun h => (M.lookup h).map (lf M k)
def HtF (M : Kp) (k : Nat) (f : Fm) : Prop := ∀ h ∈ f.holes, h ∈ keys M → Ht M k h
theorem ht_htF {M : Kp} {k : Nat} {n : Str} {f : Fm} (h : Ht M (k + 1) n) (e : M.lookup n = some f) : HtF M k f := fun x h1 h2 => h x ((used_mem e).mpr ⟨h1, h2⟩)
theorem lf_depth {M : Kp} {D : Nat} (hM : ∀ n f, M.lookup n = some f → f.depth ≤ D) : ∀ (k : Nat) (f : Fm), f.depth ≤ D → (lf M k f).depth ≤ D + k * D
  | 0, f, h => by simpa [lf] using h
  | k + 1, f, h => by
    have := Fm.fill_depth (g := fun h => (M.lookup h).map (lf M k)) (d := D + k * D) f fun x hx j e => by
      cases ex : M.lookup x with
      | none => rw [ex] at e; cases e
      | some f2 =>
        rw [ex] at e
        cases e
        exact lf_depth hM k f2 (hM x f2 ex)
    unfold lf
    rw [Nat.add_mul, Nat.one_mul]
    omega
/-! ### the order -/
def isFree (M : Kp) (done : List Str) (x : Str) : Bool := decide (x ∉ done) && (used M x).all fun h => decide (h ∈ done)
def nextF (M : Kp) (done : List Str) : Option Str := (nrm (keys M)).find? (isFree M done)
def ordF (M : Kp) : Nat → List Str → List Str
  | 0, done => done
  | k + 1, done => match nextF M done with
    | some x => ordF M k (done ++ [x])
    | none => done
def ord (M : Kp) : List Str := ordF M (keys M).length []
theorem nextF_some {M : Kp} {done : List Str} {x : Str} (h : nextF M done = some x) : x ∈ keys M ∧ x ∉ done := by
  have h1 := List.mem_of_find?_eq_some h
  have h2 := List.find?_some h
  unfold isFree at h2
  rw [Bool.and_eq_true] at h2
  exact ⟨nrm_mem.mp h1, of_decide_eq_true h2.1⟩
theorem nextF_none {M : Kp} {done : List Str} (h : ∀ x ∈ keys M, x ∈ done) : nextF M done = none := by
  unfold nextF
  rw [List.find?_eq_none]
  intro x hx
  simp [isFree, h x (nrm_mem.mp hx)]
theorem ordF_spec (M : Kp) : ∀ (k : Nat) (done : List Str), done.Nodup → (∀ x ∈ done, x ∈ keys M) → (keys M).length ≤ k + done.length →
    (∃ more, ordF M k done = done ++ more) ∧ nextF M (ordF M k done) = none ∧ (ordF M k done).length ≤ (keys M).length ∧ ∀ j, done.length ≤ j → j < (ordF M k done).length → nextF M ((ordF M k done).take j) = (ordF M k done)[j]?
  | 0, done, nd, sub, hl => by
    refine ⟨⟨[], by simp [ordF]⟩, (show nextF M done = none from nextF_none (sub_all nd sub (by omega))), sub_len nd sub, fun j h1 h2 => ?_⟩
    have h2 : j < done.length := h2
    omega
  | k + 1, done, nd, sub, hl => by
    unfold ordF
    cases e : nextF M done with
    | none =>
      refine ⟨⟨[], by simp⟩, e, sub_len nd sub, fun j h1 h2 => ?_⟩
      dsimp only at h2
      omega
    | some x =>
      obtain ⟨hx, hn⟩ := nextF_some e
      have nd2 : (done ++ [x]).Nodup := by
        rw [List.nodup_append]
        exact ⟨nd, by simp, fun a ha b hb => by
          rw [List.mem_singleton.mp hb]
          exact fun q => hn (q ▸ ha)⟩
      have sub2 : ∀ y ∈ done ++ [x], y ∈ keys M := fun y hy => by
        rcases List.mem_append.mp hy with hy | hy
        · exact sub y hy
        · rw [List.mem_singleton.mp hy]
          exact hx
      obtain ⟨⟨more, h1⟩, h2, h3, h4⟩ := ordF_spec M k (done ++ [x]) nd2 sub2 (by rw [List.length_append, List.length_singleton]; omega)
      dsimp only
      refine ⟨⟨x :: more, by rw [h1]; simp⟩, h2, h3, fun j j1 j2 => ?_⟩
      by_cases hj : j = done.length
      · subst hj
        rw [h1, List.append_assoc, List.take_left]
        rw [e]
        simp
      · exact h4 j (by rw [List.length_append, List.length_singleton]; omega) j2
theorem ord_spec (M : Kp) : nextF M (ord M) = none ∧ (ord M).length ≤ (keys M).length ∧ ∀ j, j < (ord M).length → nextF M ((ord M).take j) = (ord M)[j]? := by
  obtain ⟨_, h1, h2, h3⟩ := ordF_spec M (keys M).length [] .nil (fun _ h => nomatch h) (by simp)
  exact ⟨h1, h2, fun j hj => h3 j (Nat.zero_le _) hj⟩
/-- one turn as the law takes it -/
def ordT (M : Kp) (done : List Str) : List Str := done ++ ((nrm (keys M)).filter (isFree M done)).take 1
theorem ordT_eq (M : Kp) (done : List Str) : ordT M done = done ++ (nextF M done).toList := by
  unfold ordT nextF
  congr 1
  induction nrm (keys M) with
  | nil => rfl
  | cons x l ih =>
    rw [List.filter_cons, List.find?_cons]
    cases isFree M done x with
    | true => simp
    | false => simpa using ih
def ordTN (M : Kp) : Nat → List Str → List Str
  | 0, done => done
  | k + 1, done => ordTN M k (ordT M done)
theorem ordTN_eq (M : Kp) : ∀ (k : Nat) (done : List Str), ordTN M k done = ordF M k done
  | 0, _ => rfl
  | k + 1, done => by
    unfold ordTN ordF
    rw [ordT_eq]
    cases e : nextF M done with
    | some x => exact ordTN_eq M k _
    | none =>
      simp only [Option.toList_none, List.append_nil]
      have st : ∀ k, ordTN M k done = done := by
        intro k
        induction k with
        | zero => rfl
        | succ k ih => unfold ordTN; rw [ordT_eq, e]; simpa using ih
      exact st k
end Q41
set_option maxRecDepth 100000
set_option maxHeartbeats 4000000
/-! Forms and documents in the heap. -/
namespace Q41
open PySem PySem.Spec PyProof.Rows L2
def optV : Option Str → V
  | some s => .str s
  | none => .non
/-- the tuple of a form -/
def FmAt (K : PySem.W.Frag) (H : Hp) : Fm → V → Prop
  | .txt s, v => ∃ a, v = .ref a ∧ SqT K H a [.str "text", .str s]
  | .brk s, v => ∃ a, v = .ref a ∧ SqT K H a [.str "break", optV s]
  | .hol n, v => ∃ a, v = .ref a ∧ SqT K H a [.str "hole", .str n]
  | .joi f g, v => ∃ a x y, v = .ref a ∧ SqT K H a [.str "join", x, y] ∧ FmAt K H f x ∧ FmAt K H g y
  | .cho f g, v => ∃ a x y, v = .ref a ∧ SqT K H a [.str "choice", x, y] ∧ FmAt K H f x ∧ FmAt K H g y
  | .nes k f, v => ∃ a x, v = .ref a ∧ SqT K H a [.str "nested", .int k, x] ∧ FmAt K H f x
  | .grp f, v => ∃ a x, v = .ref a ∧ SqT K H a [.str "group", x] ∧ FmAt K H f x
  | .fla f, v => ∃ a x, v = .ref a ∧ SqT K H a [.str "flattened", x] ∧ FmAt K H f x
theorem FmAt.mono {K : PySem.W.Frag} {H H' : Hp} (e : ∀ a xs, SqT K H a xs → SqT K H' a xs) : ∀ {f : Fm} {v : V}, FmAt K H f v → FmAt K H' f v
  | .txt s, v, ⟨a, h1, h2⟩ => ⟨a, h1, e _ _ h2⟩
  | .brk s, v, ⟨a, h1, h2⟩ => ⟨a, h1, e _ _ h2⟩
  | .hol s, v, ⟨a, h1, h2⟩ => ⟨a, h1, e _ _ h2⟩
  | .joi f g, v, ⟨a, x, y, h1, h2, h3, h4⟩ => ⟨a, x, y, h1, e _ _ h2, FmAt.mono e h3, FmAt.mono e h4⟩
  | .cho f g, v, ⟨a, x, y, h1, h2, h3, h4⟩ => ⟨a, x, y, h1, e _ _ h2, FmAt.mono e h3, FmAt.mono e h4⟩
  | .nes k f, v, ⟨a, x, h1, h2, h3⟩ => ⟨a, x, h1, e _ _ h2, FmAt.mono e h3⟩
  | .grp f, v, ⟨a, x, h1, h2, h3⟩ => ⟨a, x, h1, e _ _ h2, FmAt.mono e h3⟩
  | .fla f, v, ⟨a, x, h1, h2, h3⟩ => ⟨a, x, h1, e _ _ h2, FmAt.mono e h3⟩
theorem FmAt.same {K : PySem.W.Frag} {H H' : Hp} (e : Same H H') {f : Fm} {v : V} (h : FmAt K H f v) : FmAt K H' f v := h.mono fun _ _ => Same.seqT e
/-- a list is written: the tuples stand -/
theorem sqT_lst {K : PySem.W.Frag} {H : Hp} {l : Addr} {us : List V} {o : HO} (hl : H l = some (.lst us)) (a : Addr) (xs : List V) (h : SqT K H a xs) : SqT K (upd H l o) a xs := by
  have ne : ∀ {u : HO}, u ≠ .lst us → H a = some u → a ≠ l := fun {u} n e z => by
    rw [z, hl] at e
    injection e with e
    exact n e.symm
  rcases h with (h | ⟨ob, h⟩) | h
  · exact .inl (.inl (by rw [upd_ne (ne (fun z => by cases z) h)]; exact h))
  · exact .inl (.inr ⟨ob, by rw [upd_ne (ne (fun z => by cases z) h)]; exact h⟩)
  · exact .inr h
/-- a dict is written: the tuples stand -/
theorem sqT_dK {K : PySem.W.Frag} {H : Hp} {l : Addr} {us : List (Key × V)} {o : HO} (hl : H l = some (.dK us)) (a : Addr) (xs : List V) (h : SqT K H a xs) : SqT K (upd H l o) a xs := by
  have ne : ∀ {u : HO}, u ≠ .dK us → H a = some u → a ≠ l := fun {u} n e z => by
    rw [z, hl] at e
    injection e with e
    exact n e.symm
  rcases h with (h | ⟨ob, h⟩) | h
  · exact .inl (.inl (by rw [upd_ne (ne (fun z => by cases z) h)]; exact h))
  · exact .inl (.inr ⟨ob, by rw [upd_ne (ne (fun z => by cases z) h)]; exact h⟩)
  · exact .inr h
/-- tags and the rest, as a reader of form[0] sees it -/
def Fm.tag : Fm → Str
  | .txt _ => "text"
  | .brk _ => "break"
  | .hol _ => "hole"
  | .joi _ _ => "join"
  | .cho _ _ => "choice"
  | .nes _ _ => "nested"
  | .grp _ => "group"
  | .fla _ => "flattened"
theorem FmAt.head {K : PySem.W.Frag} {H : Hp} {f : Fm} {v : V} (h : FmAt K H f v) : ∃ a xs, v = .ref a ∧ SqT K H a (.str f.tag :: xs) := by
  cases f with
  | txt s => obtain ⟨a, h1, h2⟩ := h; exact ⟨a, _, h1, h2⟩
  | brk s => obtain ⟨a, h1, h2⟩ := h; exact ⟨a, _, h1, h2⟩
  | hol s => obtain ⟨a, h1, h2⟩ := h; exact ⟨a, _, h1, h2⟩
  | joi f g => obtain ⟨a, x, y, h1, h2, _⟩ := h; exact ⟨a, _, h1, h2⟩
  | cho f g => obtain ⟨a, x, y, h1, h2, _⟩ := h; exact ⟨a, _, h1, h2⟩
  | nes k f => obtain ⟨a, x, h1, h2, _⟩ := h; exact ⟨a, _, h1, h2⟩
  | grp f => obtain ⟨a, x, h1, h2, _⟩ := h; exact ⟨a, _, h1, h2⟩
  | fla f => obtain ⟨a, x, h1, h2, _⟩ := h; exact ⟨a, _, h1, h2⟩
theorem FmAt.dp {K : PySem.W.Frag} {H : Hp} : ∀ {f : Fm} {v : V}, FmAt K H f v → Dp K H v f.data
  | .txt s, v, ⟨a, h1, h2⟩ => by subst h1; exact .tup h2 (.cons (.str _) (.cons (.str _) .nil))
  | .brk none, v, ⟨a, h1, h2⟩ => by subst h1; exact .tup h2 (.cons (.str _) (.cons .non .nil))
  | .brk (some s), v, ⟨a, h1, h2⟩ => by subst h1; exact .tup h2 (.cons (.str _) (.cons (.str _) .nil))
  | .hol s, v, ⟨a, h1, h2⟩ => by subst h1; exact .tup h2 (.cons (.str _) (.cons (.str _) .nil))
  | .joi f g, v, ⟨a, x, y, h1, h2, h3, h4⟩ => by subst h1; exact .tup h2 (.cons (.str _) (.cons (FmAt.dp h3) (.cons (FmAt.dp h4) .nil)))
  | .cho f g, v, ⟨a, x, y, h1, h2, h3, h4⟩ => by subst h1; exact .tup h2 (.cons (.str _) (.cons (FmAt.dp h3) (.cons (FmAt.dp h4) .nil)))
  | .nes k f, v, ⟨a, x, h1, h2, h3⟩ => by subst h1; exact .tup h2 (.cons (.str _) (.cons (.int _) (.cons (FmAt.dp h3) .nil)))
  | .grp f, v, ⟨a, x, h1, h2, h3⟩ => by subst h1; exact .tup h2 (.cons (.str _) (.cons (FmAt.dp h3) .nil))
  | .fla f, v, ⟨a, x, h1, h2, h3⟩ => by subst h1; exact .tup h2 (.cons (.str _) (.cons (FmAt.dp h3) .nil))
/-- the texts of a form are plain, its steps within bounds -/
def nameOk (z : Str) : Bool := decide (1 ≤ z.cps.size) && (decide (z.cps.size ≤ 8) && z.cps.toList.all fun c => decide (97 ≤ c) && decide (c ≤ 122))
def txtOk (z : Str) : Bool := decide (z.cps.size < 1000) && z.cps.toList.all fun c => decide (32 ≤ c) && decide (c ≤ 126)
def Fm.ok : Fm → Bool
  | .txt s => txtOk s
  | .brk (some s) => txtOk s
  | .brk none => true
  | .hol n => nameOk n
  | .joi a b => a.ok && b.ok
  | .cho a b => a.ok && b.ok
  | .nes k a => (decide (0 ≤ k) && decide (k ≤ 40)) && a.ok
  | .grp a => a.ok
  | .fla a => a.ok
theorem txtOk_okS {z : Str} (h : txtOk z = true) : z.cps.size < 1000 ∧ ∀ c ∈ z.cps.toList, 32 ≤ c ∧ c ≤ 126 := by
  unfold txtOk at h
  rw [Bool.and_eq_true, decide_eq_true_eq, List.all_eq_true] at h
  refine ⟨h.1, fun c hc => ?_⟩
  have := h.2 c hc
  simpa using this
theorem nameOk_iff {z : Str} : nameOk z = true ↔ 1 ≤ z.cps.size ∧ z.cps.size ≤ 8 ∧ ∀ c ∈ z.cps.toList, 97 ≤ c ∧ c ≤ 122 := by
  unfold nameOk
  rw [Bool.and_eq_true, Bool.and_eq_true, decide_eq_true_eq, decide_eq_true_eq, List.all_eq_true]
  constructor
  · rintro ⟨h1, h2, h3⟩
    exact ⟨h1, h2, fun c hc => by simpa using h3 c hc⟩
  · rintro ⟨h1, h2, h3⟩
    exact ⟨h1, h2, fun c hc => by simpa using h3 c hc⟩
theorem strOk_of {z : Str} {B : Nat} (hB : B < 0x110000) (h : ∀ c ∈ z.cps.toList, c ≤ B) : PyData.strOk z = true := by
  unfold PyData.strOk
  rw [Array.all_eq_true']
  intro c hc
  exact decide_eq_true (Nat.lt_of_le_of_lt (h c (by simpa using hc)) hB)
theorem txtOk_str {z : Str} (h : txtOk z = true) : PyData.strOk z = true := strOk_of (B := 126) (by decide) fun c hc => ((txtOk_okS h).2 c hc).2
theorem nameOk_str {z : Str} (h : nameOk z = true) : PyData.strOk z = true := strOk_of (B := 122) (by decide) fun c hc => ((nameOk_iff.mp h).2.2 c hc).2
theorem data_lay : ∀ {f : Fm}, f.ok = true → f.data.canLay0 = true
  | .txt s, h => by
    have e : PyData.strOk ("text" : Str) = true := by decide +kernel
    simp [Fm.data, PyData.canLay0, PyData.canLayAll0, e, txtOk_str h]
  | .brk none, h => by
    have e : PyData.strOk ("break" : Str) = true := by decide +kernel
    simp [Fm.data, PyData.canLay0, PyData.canLayAll0, e]
  | .brk (some s), h => by
    have e : PyData.strOk ("break" : Str) = true := by decide +kernel
    simp [Fm.data, PyData.canLay0, PyData.canLayAll0, e, txtOk_str h]
  | .hol n, h => by
    have e : PyData.strOk ("hole" : Str) = true := by decide +kernel
    simp [Fm.data, PyData.canLay0, PyData.canLayAll0, e, nameOk_str h]
  | .joi a b, h => by
    have e : PyData.strOk ("join" : Str) = true := by decide +kernel
    obtain ⟨h1, h2⟩ := Bool.and_eq_true_iff.mp h
    simp [Fm.data, PyData.canLay0, PyData.canLayAll0, e, data_lay h1, data_lay h2]
  | .cho a b, h => by
    have e : PyData.strOk ("choice" : Str) = true := by decide +kernel
    obtain ⟨h1, h2⟩ := Bool.and_eq_true_iff.mp h
    simp [Fm.data, PyData.canLay0, PyData.canLayAll0, e, data_lay h1, data_lay h2]
  | .nes k a, h => by
    have e : PyData.strOk ("nested" : Str) = true := by decide +kernel
    obtain ⟨h1, h2⟩ := Bool.and_eq_true_iff.mp h
    simp [Fm.data, PyData.canLay0, PyData.canLayAll0, e, data_lay h2]
  | .grp a, h => by
    have e : PyData.strOk ("group" : Str) = true := by decide +kernel
    have h2 : a.ok = true := h
    simp [Fm.data, PyData.canLay0, PyData.canLayAll0, e, data_lay h2]
  | .fla a, h => by
    have e : PyData.strOk ("flattened" : Str) = true := by decide +kernel
    have h2 : a.ok = true := h
    simp [Fm.data, PyData.canLay0, PyData.canLayAll0, e, data_lay h2]
theorem data_depth : ∀ (f : Fm), f.data.depth ≤ f.depth + 2 := by
  intro f
  induction f with
  | brk s => cases s <;> simp [Fm.data, Fm.depth, PyData.depth, PyData.depthAll]
  | _ => simp only [Fm.data, Fm.depth, PyData.depth, PyData.depthAll] <;> omega
theorem le_line {n : Nat} (h : n ≤ 1000) : n ≤ sizeLine := by
  rw [sizeLine_eq]
  omega
theorem at0 {x : V} {xs : List V} : atI (x :: xs) 0 = some x := by
  unfold atI ixN
  simp
theorem str_eqb {a b : Str} : (a == b) = decide (a = b) := by
  cases h : a == b with
  | true => rw [decide_eq_true (by simpa using h)]
  | false => rw [decide_eq_false (by simpa using h)]
def DC (K : PySem.W.Frag) : Addr := He.ga K "Doc"
def KC (K : PySem.W.Frag) : Addr := He.ga K "Desk"
def DocAt (K : PySem.W.Frag) (H : Hp) (f : Fm) (v : V) : Prop := ∃ a dx s, v = .ref a ∧ H a = some (.ins (DC K) dx [("shape", s)]) ∧ FmAt K H f s
theorem DocAt.same {K : PySem.W.Frag} {H H' : Hp} (e : Same H H') {f : Fm} {v : V} (h : DocAt K H f v) : DocAt K H' f v := by
  obtain ⟨a, dx, s, h1, h2, h3⟩ := h
  exact ⟨a, dx, s, h1, e _ _ h2, h3.same e⟩
end Q41
set_option maxRecDepth 100000
set_option maxHeartbeats 4000000
/-! What a def promises and how it is called, in one. -/
namespace Q41
open PySem PySem.Spec PyProof.Rows L2
structure Has (P : Program) (w : World) (K : PySem.W.Frag) (mg : Str → Option Value) (base : Heap) (k : Nat) (x : Str) (f : Addr) (ps : List Str) (sp : Sp) : Prop where
  F : FnOk P w K mg base (L2.CX P w) k f (fdOf K f) ps sp
  g : mg x = some (.ref f)
  kp : PySem.W.keepIn K (.ref f) = true
  b : Binds K (fdOf K f) ps []
theorem Has.mono {P : Program} {w : World} {K : PySem.W.Frag} {mg : Str → Option Value} {base : Heap} {j k : Nat} {x : Str} {f : Addr} {ps : List Str} {sp : Sp} (h : Has P w K mg base j x f ps sp) (le : j ≤ k) : Has P w K mg base k x f ps sp := ⟨h.F.mono le, h.g, h.kp, h.b⟩
/-- a method -/
structure HasM (P : Program) (w : World) (K : PySem.W.Frag) (mg : Str → Option Value) (base : Heap) (k : Nat) (C : Addr) (m : Str) (f : Addr) (ps : List Str) (sp : Sp) : Prop where
  F : FnOk P w K mg base (L2.CX P w) k f (fdOf K f) ps sp
  c : Cls K C
  m : Meth K C m f
  b : Binds K (fdOf K f) ps []
/-- a class, by its __init__ -/
structure HasC (P : Program) (w : World) (K : PySem.W.Frag) (mg : Str → Option Value) (base : Heap) (k : Nat) (x : Str) (C f : Addr) (ps : List Str) (sp : Sp) : Prop where
  F : FnOk P w K mg base (L2.CX P w) k f (fdOf K f) ps sp
  g : mg x = some (.ref C)
  M : Mk K C f
  b : Binds K (fdOf K f) ps []
/-- a property -/
structure HasP (P : Program) (w : World) (K : PySem.W.Frag) (mg : Str → Option Value) (base : Heap) (k : Nat) (C : Addr) (m : Str) (p f : Addr) (ps : List Str) (sp : Sp) : Prop where
  F : FnOk P w K mg base (L2.CX P w) k f (fdOf K f) ps sp
  c : Cls K C
  p : PropOf K C m p f
  b : Binds K (fdOf K f) ps []
section
variable {X : Cx} {k : Nat} {f C pa : Addr} {ps : List Str} {sp : Sp} {x m : Str} {e o : Expr} {es : List Expr} {t : TA} {ta : TE} {p apos pos : Pos}
theorem pe_hc (h : Has X.prog X.w X.K X.mg X.base k x f ps sp) (hr : Room k X.A) (hg : Gl X x) (ha : PA X (e :: es) t) (hdb : (x == ("__debug__" : Str)) = false := by decide) (he : starEach (e :: es) X.env = (false, eval e X.env) :: starEach es X.env := by rfl)
    (hpl : (backTo pos (starEach es X.env)).any (·.1) = false := by rfl) : PE X (.Call (.Name x p) (e :: es) [] pos) (tCall sp [] E0 t) := pe_call h.F hr hg h.g h.kp h.b .nil passL ha hdb he hpl
theorem pe_hc0 (h : Has X.prog X.w X.K X.mg X.base k x f ps sp) (hr : Room k X.A) (hg : Gl X x) (hdb : (x == ("__debug__" : Str)) = false := by decide) : PE X (.Call (.Name x p) [] [] pos) (tCall sp [] E0 tNil) := pe_call0 h.F hr hg h.g h.kp h.b .nil passL hdb
theorem pe_hmE {E : XK} {pl : Sem Bool} (h : HasM X.prog X.w X.K X.mg X.base k C m f ps sp) (hr : Room k X.A) (hx : Passes (L2.CX X.prog X.w) X E) (ho : PE X o ta) (ha : PA X (e :: es) t) (he : starEach (e :: es) X.env = (false, eval e X.env) :: starEach es X.env := by rfl) (hpl : (backTo pos (starEach es X.env)).any (·.1) = false := by rfl)
    (ht : eval (.Call (.Attribute o m apos) (e :: es) [] pos) X.env = (do
      let ov ← eval o X.env
      standAt apos.atName
      let (f, first) ← holding [ov] (getMethod ov m pl)
      callWith pos f first (backTo pos (starEach (e :: es) X.env)) (backToKw pos (keywordEach [] X.env))) := by rfl) :
    PE X (.Call (.Attribute o m apos) (e :: es) [] pos) (tMeth C m sp [] E ta t) := pe_meth (pl := pl) ho h.c h.m h.F hr h.b .nil hx ha he hpl ht
theorem pe_hm {pl : Sem Bool} (h : HasM X.prog X.w X.K X.mg X.base k C m f ps sp) (hr : Room k X.A) (ho : PE X o ta) (ha : PA X (e :: es) t) (he : starEach (e :: es) X.env = (false, eval e X.env) :: starEach es X.env := by rfl) (hpl : (backTo pos (starEach es X.env)).any (·.1) = false := by rfl)
    (ht : eval (.Call (.Attribute o m apos) (e :: es) [] pos) X.env = (do
      let ov ← eval o X.env
      standAt apos.atName
      let (f, first) ← holding [ov] (getMethod ov m pl)
      callWith pos f first (backTo pos (starEach (e :: es) X.env)) (backToKw pos (keywordEach [] X.env))) := by rfl) :
    PE X (.Call (.Attribute o m apos) (e :: es) [] pos) (tMeth C m sp [] E0 ta t) := pe_hmE (pl := pl) h hr passL ho ha he hpl ht
theorem pe_hm0 {pl : Sem Bool} (h : HasM X.prog X.w X.K X.mg X.base k C m f ps sp) (hr : Room k X.A) (ho : PE X o ta)
    (ht : eval (.Call (.Attribute o m apos) [] [] pos) X.env = (do
      let ov ← eval o X.env
      standAt apos.atName
      let (f, first) ← holding [ov] (getMethod ov m pl)
      callWith pos f first (backTo pos (starEach [] X.env)) (backToKw pos (keywordEach [] X.env))) := by rfl) :
    PE X (.Call (.Attribute o m apos) [] [] pos) (tMeth C m sp [] E0 ta tNil) := pe_meth0 (pl := pl) ho h.c h.m h.F hr h.b .nil passL ht
theorem pe_hk (h : HasC X.prog X.w X.K X.mg X.base k x C f ps sp) (hr : Room (k + 1) X.A) (hg : Gl X x) (ha : PA X (e :: es) t) (hdb : (x == ("__debug__" : Str)) = false := by decide) (he : starEach (e :: es) X.env = (false, eval e X.env) :: starEach es X.env := by rfl)
    (hpl : (backTo pos (starEach es X.env)).any (·.1) = false := by rfl) : PE X (.Call (.Name x p) (e :: es) [] pos) (tMake C sp [] E0 t) := pe_make h.M h.F hr hg h.g h.b .nil passL ha hdb he hpl
theorem pe_hk0 (h : HasC X.prog X.w X.K X.mg X.base k x C f ps sp) (hr : Room (k + 1) X.A) (hg : Gl X x) (hdb : (x == ("__debug__" : Str)) = false := by decide) : PE X (.Call (.Name x p) [] [] pos) (tMake C sp [] E0 tNil) := pe_make0 h.M h.F hr hg h.g h.b .nil passL hdb
theorem pe_hp (h : HasP X.prog X.w X.K X.mg X.base k C m pa f ps sp) (hr : Room (k + 1) X.A) (ho : PE X o ta) (hab : attributeBase o m X.env (eval o X.env) = eval o X.env := by rfl) : PE X (.Attribute o m pos) (tProp C sp [] E0 ta) :=
  pe_prop ho h.c h.p h.F hr h.b .nil (by exact passL) hab
end
section
variable {P : Program} {w : World} {K : PySem.W.Frag} {mg : Str → Option Value} {base : Heap}
theorem mkHas {k : Nat} {x : Str} {st : Stmt} {dvs : List V} {f : Addr} {ps : List Str} {sp : Sp} (T : TopDef K mg x st dvs f) (F : FnOk P w K mg base (L2.CX P w) k f (fdOf K f) ps sp) (b : Binds K (fdOf K f) ps []) : Has P w K mg base k x f ps sp := ⟨F, T.g, T.d.kp, b⟩
end
end Q41
set_option maxRecDepth 100000
set_option maxHeartbeats 4000000
/-! The rules that name the written part, with it named: for use within blocks. -/
namespace Q41
open PySem PySem.Spec PyProof.Rows L2
section
variable (K : PySem.W.Frag) {X : Cx}
theorem ixT (e : X.K = K := by rfl) : IxR X (rIxT K) := e ▸ ix_tup
theorem ixL (e : X.K = K := by rfl) : IxR X (rIxL K) := e ▸ ix_list
theorem inq (e : X.K = K := by rfl) : OpR X (compareOp .In) (rIn K false) := e ▸ op_in_seq
theorem ninq (e : X.K = K := by rfl) : OpR X (compareOp .NotIn) (rIn K true) := e ▸ op_notIn_seq
theorem isi (e : X.K = K := by rfl) : CallR X (.builtin "isinstance") (rIsi K) := e ▸ call_isi
theorem allq (e : X.K = K := by rfl) (hc : X.calm = true := by rfl) : CallR X (.builtin "all") (rAll K) := e ▸ cr_all hc
theorem sumq (e : X.K = K := by rfl) (hc : X.calm = true := by rfl) : CallR X (.builtin "sum") (rSum K) := e ▸ cr_sum hc
def rLenQ (K : PySem.W.Frag) : List V → Hp → VK → Prop := fun xs H Q => ∃ p ys, xs = [.ref p] ∧ (SqL K H p ys ∨ SqT K H p ys) ∧ Q (.int ys.length) H
theorem lenq (e : X.K = K := by rfl) : CallR X (.builtin "len") (rLenQ K) := e ▸ call_len_seq
theorem srtS (e : X.K = K := by rfl) : CallR X (.builtin "sorted") (rSortedS K) := e ▸ cr_sortedS
theorem srtT (w : World) (e : X.w = w := by rfl) (hc : X.calm = true := by rfl) : CallR X (.builtin "sorted") (rSortT w) := e ▸ cr_sortT hc
theorem setq (w : World) (e : X.w = w := by rfl) (e2 : X.K = K := by rfl) (hc : X.calm = true := by rfl) : CallR X (.type "set") (rSetT w K) := e ▸ e2 ▸ cr_setT hc
theorem eqD (e : X.K = K := by rfl) (hu : X.A.units + 64 < cLine) : OpR X (compareOp .Eq) (rEqD K) := e ▸ op_eqD hu
theorem neD (e : X.K = K := by rfl) (hu : X.A.units + 64 < cLine) : OpR X (compareOp .NotEq) (rNeD K) := e ▸ op_neD hu
theorem fld {ex : Expr} {ta : TE} {f : Str} {pos : Pos} (he : PE X ex ta) (e : X.K = K := by rfl) (hb : attributeBase ex f X.env (eval ex X.env) = eval ex X.env := by rfl) : PE X (.Attribute ex f pos) (tFld K ta f) := e ▸ pe_fld he hb
theorem tupq {a : Expr} {ta : TE} {p pos : Pos} (hg : Gl X "tuple") (hm : X.mg "tuple" = none) (ha : PE X a ta) (e : X.K = K := by rfl) (na : starEach [a] X.env = (false, eval a X.env) :: starEach [] X.env := by rfl) : PE X (.Call (.Name "tuple" p) [a] [] pos) (tThen ta (kTup K)) := e ▸ pe_tupleOf hg hm ha na
theorem pil {tg l : Expr} {tl : TE} (hl : PE X l tl) (e : X.K = K := by rfl) : PI X tg l (iList K tl) := e ▸ pi_list hl
theorem pit {tg l : Expr} {tl : TE} (hl : PE X l tl) (e : X.K = K := by rfl) : PI X tg l (iTup K tl) := e ▸ pi_tup hl
theorem sll (e : X.K = K := by rfl) : SlR X (rSlL K) := e ▸ sl_list
theorem slt (e : X.K = K := by rfl) : SlR X (rSlT K) := e ▸ sl_tup
theorem units64 {A : Around} {k : Nat} (hr : Room k A) : A.units + 64 < cLine := by
  have := hr.un
  omega
end
end Q41
set_option maxRecDepth 100000
set_option maxHeartbeats 4000000
/-! is_string, is_integer, is_name. -/
namespace Q41
open PySem PySem.Spec PyProof.Rows L2
def signs (z : Str) : List V := z.cps.toList.map fun c => V.str ⟨#[c]⟩
theorem signs_len {z : Str} : (signs z).length = z.cps.size := by simp [signs]
theorem ystr {z : Str} : ∀ (i : Nat) (H : Hp) (x : V) (H' : Hp), (H' = H ∧ ∃ c, z.cps[i]? = some c ∧ x = .str ⟨#[c]⟩) → H' = H ∧ (signs z)[i]? = some x := by
  rintro i H x H' ⟨rfl, c, h1, rfl⟩
  refine ⟨rfl, ?_⟩
  simp [signs, h1]
def okS (z : Str) : Prop := z.cps.size < 1000 ∧ ∀ c ∈ z.cps.toList, 32 ≤ c ∧ c ≤ 126
theorem lt1 {a b : Nat} : ([a] < [b]) ↔ a < b := by
  constructor
  · intro h
    cases h with
    | rel h => exact h
    | cons h => cases h
  · intro h
    exact .rel h
section
variable {CX : CXT} {P : Program} {w : World} {K : PySem.W.Frag} {mg : Str → Option Value} {base : Heap} {f : Addr}
theorem sc_is_string : FnScope ["thing", "sign"] ["thing"] (defScope (top 14)) := mkScope
def spIsString : Sp := fun vs H Q _ => ∃ z, vs = [.str z] ∧ okS z ∧ ∀ H', Same H H' → Q (.bl true) H'
theorem ok_is_string (F : DefAt K "is_string" "is_string" (top 14) [] f) (gI : mg "isinstance" = none) (gA : mg "all" = none) (gS : mg "str" = none) : FnOk P w K mg base CX 1 f (fdOf K f) ["thing"] spIsString := by
  refine F.ok sc_is_string (fun vs H Q E ⟨x, e, _⟩ => by rw [e] <;> rfl) (fun cdv A outer s H vs Q E hr ⟨z, ev, hz, hQ⟩ => ⟨_, pss_one (ps_ret (pe_and (pe_callB call_isi rfl gI Boot.«isinstance» (pa_cons (pv 0) (pa_cons (pe_bltn rfl gS Boot.«str» (v := .ty "str") rfl) pa_nil)))
    (pe_one (pe_callB (cr_all rfl) rfl gA Boot.«all» (pa_cons (pe_lc (own := [("sign", 1)]) rfl sc_is_string.nd (pi_str (pv 0)) (mkBlk (N := ["thing", "sign"]) (sc := defScope (top 14))) (fun _ _ _ _ _ => pg_name sc_is_string.nd (i := 1) rfl (.inl rfl)) (fun _ _ _ _ _ => pts_nil) (fun _ _ _ _ _ => pe_chain op_le_str op_le_str pe_str (pv 1) pe_str)) pa_nil))))), ?_⟩)
  subst ev
  refine ⟨_, rfl, _, _, _, _, _, rfl, .ty "str", .base (.str z), by rfl, true, rfl, ?_⟩
  refine ⟨_, rfl, z, rfl, fun D hD => ?_⟩
  refine lc_same walk_str (fun _ => some (.bl true)) signs_len (by have := hz.1; omega) hD (fun _ _ => trivial) ystr (fun x hx H1 s1 Q1 q1 => ?_) fun H2 s2 e2 => ?_
  · obtain ⟨c, hc, rfl⟩ := List.mem_map.mp hx
    obtain ⟨c1, c2⟩ := hz.2 c hc
    have n1 : ¬ ([c] < [32]) := by rw [lt1]; omega
    have n2 : ¬ ([126] < [c]) := by rw [lt1]; omega
    refine ⟨rfl, _, rfl, _, _, rfl, rfl, _, rfl, ?_⟩
    refine ite2 (fun _ => ⟨_, _, rfl, rfl, ?_⟩) fun h => ?_
    · have e : (!decide (([126] : List Nat) < [c])) = true := by rw [decide_eq_false n2] <;> rfl
      show Q1 (some (.bl (!decide (([126] : List Nat) < [c])))) H1
      rw [e]
      exact q1 H1 (Same.refl _)
    · exfalso
      apply h
      show (!decide (([c] : List Nat) < [32])) = true
      rw [decide_eq_false n1] <;> rfl
  · refine ⟨D, (signs z).map fun _ => true, rfl, sqL_of ?_, ?_⟩
    · rw [e2]
      simp [List.filterMap_eq_map']
    · have e : (((signs z).map fun _ => true).all id) = true := by simp
      rw [e]
      exact hQ H2 s2
end
end Q41
set_option maxRecDepth 100000
set_option maxHeartbeats 4000000
namespace Q41
open PySem PySem.Spec PyProof.Rows L2
section
variable {P : Program} {w : World} {K : PySem.W.Frag} {mg : Str → Option Value} {base : Heap} {f : Addr}
theorem sc_is_integer : FnScope ["thing", "least", "most"] ["thing", "least", "most"] (defScope (top 15)) := mkScope
def spIsInteger : Sp := fun vs H Q _ => ∃ n lo hi : Int, vs = [.int n, .int lo, .int hi] ∧ lo ≤ n ∧ n ≤ hi ∧ Q (.bl true) H
theorem ok_is_integer (F : DefAt K "is_integer" "is_integer" (top 15) [.non, .non] f) (g_isinstance : mg "isinstance" = none) (g_int : mg "int" = none) (g_bool : mg "bool" = none) : FnOk P w K mg base (L2.CX P w) 1 f (fdOf K f) ["thing", "least", "most"] spIsInteger := by
  refine F.ok sc_is_integer (fun vs H Q E ⟨_, _, _, e, _⟩ => by rw [e] <;> rfl) (fun cdv A outer s H vs Q E hr ⟨n, lo, hi, ev, h1, h2, hQ⟩ => ⟨_, PSs.nox (pss_cons (ps_if (PW.pt (pw_or (pt_not (pt_val (pe_callB call_isi rfl g_isinstance Boot.«isinstance» (pa_cons (pv 0) (pa_cons (pe_bltn rfl g_int Boot.«int» (v := .ty "int") rfl) pa_nil))))) (pw_or1 (pt_val (pe_callB call_isi rfl g_isinstance Boot.«isinstance» (pa_cons (pv 0) (pa_cons (pe_bltn rfl g_bool Boot.«bool» (v := .ty "bool") rfl) pa_nil))))))) (pss_one (ps_ret pe_bl)) pss_nil) (pss_one (ps_ret (pe_and (pe_or (pe_cmpR op_isN (pv 1) pe_non (nomark _)) (pe_one (pe_cmpR op_ge (pv 0) (pv 1) (nomark _)))) (pe_one (pe_or (pe_cmpR op_isN (pv 2) pe_non (nomark _)) (pe_one (pe_cmpR op_le (pv 0) (pv 2) (nomark _))))))))), ?_⟩)
  subst ev
  refine ⟨_, rfl, _, _, _, _, _, rfl, .ty "int", .base (.int n), (by rfl), _, rfl, ?_⟩
  refine ifF rfl ?_
  refine ⟨_, rfl, _, _, _, _, _, rfl, .ty "bool", .base (.int n), (by rfl), _, rfl, ?_⟩
  refine ifF rfl ?_
  refine ⟨_, rfl, rfl, _, rfl, ?_⟩
  refine ifF (decide_eq_false (fun e => by cases e)) ?_
  refine ⟨_, rfl, _, rfl, _, _, rfl, rfl, _, rfl, ?_⟩
  refine ifT (decide_eq_true h1) ?_
  refine ⟨_, rfl, rfl, _, rfl, ?_⟩
  refine ifF (decide_eq_false (fun e => by cases e)) ?_
  refine ⟨_, rfl, _, rfl, _, _, rfl, rfl, ?_⟩
  have e : decide (n ≤ hi) = true := decide_eq_true h2
  show Q (.bl (decide (n ≤ hi))) H
  rw [e]
  exact hQ
def letters : Str := "abcdefghijklmnopqrstuvwxyz"
theorem letters_mem (c : Nat) : decide (c ∈ letters.cps.toList) = (decide (97 ≤ c) && decide (c ≤ 122)) := by
  have e : letters.cps.toList = List.range' 97 26 := by decide +kernel
  rw [e, Bool.eq_iff_iff]
  simp only [decide_eq_true_eq, Bool.and_eq_true, List.mem_range'_1]
  omega
theorem sc_is_name : FnScope ["thing", "sign"] ["thing"] (defScope (top 16)) := mkScope
def spIsName (K : PySem.W.Frag) : Sp := fun vs H Q _ => (∃ z, vs = [.str z] ∧ z.cps.size < 1000 ∧ ∀ H', Same H H' → Q (.bl (nameOk z)) H') ∨ ∃ x t, vs = [x] ∧ TyX K H x t ∧ PySem.W.kitOne K t (.type "str") = some false ∧ Q (.bl false) H
theorem ok_is_name (F : DefAt K "is_name" "is_name" (top 16) [] f) (g_isinstance : mg "isinstance" = none) (g_all : mg "all" = none) (g_str : mg "str" = none) (g_len : mg "len" = none) (gl : ∃ t, mg "LETTERS" = some (.str letters t)) (gm : ∃ t, mg "MOST_LETTERS" = some (.int 8 t)) :
    FnOk P w K mg base (L2.CX P w) 1 f (fdOf K f) ["thing"] (spIsName K) := by
  obtain ⟨_, gL⟩ := gl
  obtain ⟨_, g8⟩ := gm
  refine F.ok sc_is_name (fun vs H Q E h => ?_) (fun cdv A outer s H vs Q E hr h => ⟨_, PSs.nox (pss_one (ps_ret (pe_and (pe_callB call_isi rfl g_isinstance Boot.«isinstance» (pa_cons (pv 0) (pa_cons (pe_bltn rfl g_str Boot.«str» (v := .ty "str") rfl) pa_nil))) (pe_and (pe_chain op_le op_le pe_int (pe_callB call_len_str rfl g_len Boot.«len» (pa_cons (pv 0) pa_nil)) (pe_glob (v := .int 8) rfl g8 ⟨_, rfl⟩)) (pe_one (pe_callB (cr_all rfl) rfl g_all Boot.«all» (pa_cons (pe_lc (own := [("sign", 1)]) rfl sc_is_name.nd (pi_str (pv 0)) (mkBlk (N := ["thing", "sign"]) (sc := defScope (top 16))) (fun _ _ _ _ _ => pg_name sc_is_name.nd (i := 1) rfl (.inl rfl)) (fun _ _ _ _ _ => pts_nil) (fun _ _ _ _ _ => (pe_cmpR op_in_sign (pv 1) (pe_glob (v := .str letters) rfl gL ⟨_, rfl⟩) rfl))) pa_nil))))))), ?_⟩)
  · rcases h with ⟨_, e, _⟩ | ⟨_, _, e, _⟩ <;> rw [e] <;> rfl
  rcases h with ⟨z, ev, hz, hQ⟩ | ⟨x, t, ev, ty, kt, hQ⟩
  · subst ev
    refine ⟨_, rfl, _, _, _, _, _, rfl, .ty "str", .base (.str z), (by rfl), _, rfl, ?_⟩
    refine ifT rfl ?_
    refine ⟨_, rfl, _, rfl, by rw [sizeLine_eq]; show z.cps.size ≤ _; omega, _, _, rfl, rfl, _, rfl, ?_⟩
    have hsz : (z.length : Int) = (z.cps.size : Int) := rfl
    by_cases h1 : 1 ≤ z.cps.size
    · refine ifT (decide_eq_true (by rw [hsz]; omega)) ?_
      refine ⟨_, _, rfl, rfl, _, rfl, ?_⟩
      by_cases h2 : z.cps.size ≤ 8
      · refine ifT (decide_eq_true (by rw [hsz]; omega)) ?_
        refine ⟨_, rfl, z, rfl, fun D hD => ?_⟩
        refine lc_same walk_str (fun v => match v with | .str y => some (.bl (y.cps.toList.all fun c => decide (97 ≤ c) && decide (c ≤ 122))) | _ => none) signs_len (by omega) hD (fun _ _ => trivial) ystr (fun x hx H1 s1 Q1 q1 => ?_) fun H2 s2 e2 => ?_
        · obtain ⟨c, hc, rfl⟩ := List.mem_map.mp hx
          refine ⟨rfl, _, rfl, c, letters, rfl, rfl, ?_⟩
          have z1 := q1 H1 (Same.refl _)
          rw [letters_mem]
          simpa using z1
        · refine ⟨D, z.cps.toList.map fun c => decide (97 ≤ c) && decide (c ≤ 122), rfl, sqL_of ?_, ?_⟩
          · rw [e2]
            congr 2
            simp [signs, List.filterMap_map, Function.comp_def, List.filterMap_eq_map']
          · have e : nameOk z = (((z.cps.toList.map fun c => decide (97 ≤ c) && decide (c ≤ 122))).all id) := by
              unfold nameOk
              rw [decide_eq_true h1, decide_eq_true h2, List.all_map]
              simp [Function.comp_def]
            rw [← e]
            exact hQ H2 s2
      · refine ifF (decide_eq_false (by rw [hsz]; omega)) ?_
        have e : nameOk z = false := by
          unfold nameOk
          rw [decide_eq_false h2]
          simp
        rw [← e]
        exact hQ H (Same.refl _)
    · refine ifF (decide_eq_false (by rw [hsz]; omega)) ?_
      refine ⟨_, rfl, ifF rfl ?_⟩
      have e : nameOk z = false := by
        unfold nameOk
        rw [decide_eq_false h1]
        rfl
      rw [← e]
      exact hQ H (Same.refl _)
  · subst ev
    refine ⟨_, rfl, _, _, _, _, _, rfl, .ty "str", ty, kt, _, rfl, ?_⟩
    exact ifF rfl hQ
end
end Q41
set_option maxRecDepth 100000
set_option maxHeartbeats 4000000
/-! inner_forms, all_forms, filled_form. -/
namespace Q41
open PySem PySem.Spec PyProof.Rows L2
/-- form[0] in (A, B) -/
theorem rd_in2 {K : PySem.W.Frag} {σ : L2.St} {H : Hp} {i : Nat} {v : V} {f : Fm} {A B : Str} {Qt : Bool → Hp → Prop} (hσ : σ[i]? = some (some v)) (hf : FmAt K H f v) (h : ∀ H', Same H H' → Qt (decide (f.tag = A) || decide (f.tag = B)) H') :
    tTest (tOp (rIn K false) (tOp (rIxT K) (tVar i) (tC (.int 0))) (tTup (tCons (tC (.str A)) (tCons (tC (.str B)) tNil)))) σ H Qt := by
  obtain ⟨a, xs, rfl, ht⟩ := hf.head
  refine ⟨_, hσ, a, _, 0, .str f.tag, rfl, rfl, ht, at0, le_line (by simp), fun p hp => ⟨p, _, rfl, .inr (sqT_of upd_same), rfl, rfl, _, rfl, ?_⟩⟩
  have e : inV (V.str f.tag) [V.str A, V.str B] = (decide (f.tag = A) || decide (f.tag = B)) := by
    unfold inV
    simp only [List.any_cons, List.any_nil, Bool.or_false]
    show ((A == f.tag) || (B == f.tag)) = _
    rw [str_eqb, str_eqb, decide_eq_decide.mpr (eq_comm (a := A)), decide_eq_decide.mpr (eq_comm (a := B))]
  show Qt (if false = true then !inV (V.str f.tag) [V.str A, V.str B] else inV (V.str f.tag) [V.str A, V.str B]) _
  rw [if_neg Bool.false_ne_true, e]
  exact h _ (Same.upd hp)
/-- form[0] == A -/
theorem rd_eq {K : PySem.W.Frag} {σ : L2.St} {H : Hp} {i : Nat} {v : V} {f : Fm} {A : Str} {Qt : Bool → Hp → Prop} (hσ : σ[i]? = some (some v)) (hf : FmAt K H f v) (h : Qt (decide (f.tag = A)) H) :
    tTest (tOp rEq (tOp (rIxT K) (tVar i) (tC (.int 0))) (tC (.str A))) σ H Qt := by
  obtain ⟨a, xs, rfl, ht⟩ := hf.head
  refine ⟨_, hσ, a, _, 0, .str f.tag, rfl, rfl, ht, at0, rfl, _, rfl, ?_⟩
  have e : decide (V.str f.tag = V.str A) = decide (f.tag = A) := decide_eq_decide.mpr ⟨fun e => by injection e, fun e => by rw [e]⟩
  rw [e]
  exact h
/-- a list of forms -/
def FmsAt (K : PySem.W.Frag) (H : Hp) : List Fm → List V → Prop
  | [], [] => True
  | f :: fs, v :: vs => FmAt K H f v ∧ FmsAt K H fs vs
  | _, _ => False
theorem FmsAt.mono {K : PySem.W.Frag} {H H' : Hp} (e : ∀ a xs, SqT K H a xs → SqT K H' a xs) : ∀ {fs : List Fm} {vs : List V}, FmsAt K H fs vs → FmsAt K H' fs vs
  | [], [], _ => trivial
  | _ :: _, _ :: _, ⟨h1, h2⟩ => ⟨h1.mono e, FmsAt.mono e h2⟩
theorem FmsAt.same {K : PySem.W.Frag} {H H' : Hp} (e : Same H H') {fs : List Fm} {vs : List V} (h : FmsAt K H fs vs) : FmsAt K H' fs vs := h.mono fun _ _ => Same.seqT e
theorem FmsAt.append {K : PySem.W.Frag} {H : Hp} : ∀ {fs gs : List Fm} {vs us : List V}, FmsAt K H fs vs → FmsAt K H gs us → FmsAt K H (fs ++ gs) (vs ++ us)
  | [], _, [], _, _, h => h
  | _ :: _, _, _ :: _, _, ⟨h1, h2⟩, h => ⟨h1, FmsAt.append h2 h⟩
theorem FmsAt.length {K : PySem.W.Frag} {H : Hp} : ∀ {fs : List Fm} {vs : List V}, FmsAt K H fs vs → vs.length = fs.length
  | [], [], _ => rfl
  | _ :: _, _ :: _, ⟨_, h2⟩ => by simp [FmsAt.length h2]
theorem FmsAt.get {K : PySem.W.Frag} {H : Hp} : ∀ {fs : List Fm} {vs : List V} {i : Nat} {v : V}, FmsAt K H fs vs → vs[i]? = some v → ∃ f, fs[i]? = some f ∧ FmAt K H f v
  | [], [], i, v, _, h => by simp at h
  | f :: fs, u :: us, 0, v, ⟨h1, _⟩, h => by
    simp at h
    subst h
    exact ⟨f, rfl, h1⟩
  | f :: fs, u :: us, i + 1, v, ⟨_, h2⟩, h => by
    simpa using FmsAt.get h2 (i := i) (by simpa using h)
section
variable {P : Program} {w : World} {K : PySem.W.Frag} {mg : Str → Option Value} {base : Heap} {f : Addr}
theorem sc_inner : FnScope ["form"] ["form"] (defScope (top 17)) := mkScope
def spInner (K : PySem.W.Frag) : Sp := fun vs H Q _ => ∃ f v, vs = [v] ∧ FmAt K H f v ∧ ∀ l us H', Same H H' → H l = none → H' l = some (.lst us) → FmsAt K H' f.inner us → Q (.ref l) H'
theorem ok_inner (F : DefAt K "inner_forms" "inner_forms" (top 17) [] f) : FnOk P w K mg base (L2.CX P w) 1 f (fdOf K f) ["form"] (spInner K) := by
  refine F.ok sc_inner (fun vs H Q E ⟨_, _, e, _⟩ => by rw [e] <;> rfl) (fun cdv A outer s H vs Q E hr ⟨f, v, ev, hf, hQ⟩ => ⟨_, PSs.nox (pss_cons (ps_if (pt_cmpR op_in_seq (pe_ix ix_tup (pv 0) pe_int (by intro _ _; rfl)) (pe_tup (pa_cons pe_str (pa_cons pe_str pa_nil))) rfl) (pss_one (ps_ret (pe_lst (pa_cons (pe_ix ix_tup (pv 0) pe_int (by intro _ _; rfl)) (pa_cons (pe_ix ix_tup (pv 0) pe_int (by intro _ _; rfl)) pa_nil))))) pss_nil) (pss_cons (ps_if (pt_cmpR op_eq (pe_ix ix_tup (pv 0) pe_int (by intro _ _; rfl)) pe_str (nomark _)) (pss_one (ps_ret (pe_lst (pa_cons (pe_ix ix_tup (pv 0) pe_int (by intro _ _; rfl)) pa_nil)))) pss_nil) (pss_cons (ps_if (pt_cmpR op_in_seq (pe_ix ix_tup (pv 0) pe_int (by intro _ _; rfl)) (pe_tup (pa_cons pe_str (pa_cons pe_str pa_nil))) rfl) (pss_one (ps_ret (pe_lst (pa_cons (pe_ix ix_tup (pv 0) pe_int (by intro _ _; rfl)) pa_nil)))) pss_nil) (pss_one (ps_ret (pe_lst pa_nil)))))), ?_⟩)
  subst ev
  refine rd_in2 (f := f) (i := 0) rfl hf fun H1 s1 => ?_
  have two : ∀ (tg : Str) (f1 f2 : Fm) (a : Addr) (x y : V), SqT K H a [.str tg, x, y] → FmAt K H f1 x → FmAt K H f2 y → f.inner = [f1, f2] → ∃ v0, (L2.start ["form"] [V.ref a])[0]? = some (some v0) ∧ ∃ p xs i v1, v0 = .ref p ∧ V.int 1 = .int i ∧ SqT K H1 p xs ∧ atI xs i = some v1 ∧
      ∃ v0, (L2.start ["form"] [V.ref a])[0]? = some (some v0) ∧ ∃ p xs i v2, v0 = .ref p ∧ V.int 2 = .int i ∧ SqT K H1 p xs ∧ atI xs i = some v2 ∧ ([v1, v2].length ≤ sizeLine ∧ ∀ q, H1 q = none → Q (.ref q) (upd H1 q (.lst [v1, v2]))) := by
    intro tg f1 f2 a x y h2 h3 h4 h5
    refine ⟨_, rfl, a, _, 1, x, rfl, rfl, Same.seqT s1 h2, rfl, _, rfl, a, _, 2, y, rfl, rfl, Same.seqT s1 h2, rfl, le_line (by simp), fun q hq => ?_⟩
    have s2 := Same.upd2 (o := .lst [x, y]) s1 hq
    exact hQ q _ _ s2 (s1.free hq) upd_same (by rw [h5]; exact ⟨h3.same s2, h4.same s2, trivial⟩)
  have nil : f.inner = [] → ([] : List V).length ≤ sizeLine ∧ ∀ q, H1 q = none → Q (.ref q) (upd H1 q (.lst [])) := fun h5 =>
    ⟨Nat.zero_le _, fun q hq => hQ q _ _ (Same.upd2 s1 hq) (s1.free hq) upd_same (by rw [h5]; trivial)⟩
  cases f with
  | joi f1 f2 =>
    obtain ⟨a, x, y, rfl, h2, h3, h4⟩ := hf
    exact ifT (by show (decide (("join" : Str) = "join") || decide (("join" : Str) = "choice")) = true; decide +kernel) (two _ f1 f2 a x y h2 h3 h4 rfl)
  | cho f1 f2 =>
    obtain ⟨a, x, y, rfl, h2, h3, h4⟩ := hf
    exact ifT (by show (decide (("choice" : Str) = "join") || decide (("choice" : Str) = "choice")) = true; decide +kernel) (two _ f1 f2 a x y h2 h3 h4 rfl)
  | nes k f1 =>
    refine ifF (by show (decide (("nested" : Str) = "join") || decide (("nested" : Str) = "choice")) = false; decide +kernel) ?_
    refine rd_eq (f := .nes k f1) (i := 0) rfl (hf.same s1) ?_
    refine ifT (by show decide (("nested" : Str) = "nested") = true; decide +kernel) ?_
    obtain ⟨a, x, rfl, h2, h3⟩ := hf
    refine ⟨_, rfl, a, _, 2, x, rfl, rfl, Same.seqT s1 h2, rfl, le_line (by simp), fun q hq => ?_⟩
    have s2 := Same.upd2 (o := .lst [x]) s1 hq
    exact hQ q _ _ s2 (s1.free hq) upd_same ⟨h3.same s2, trivial⟩
  | grp f1 =>
    refine ifF (by show (decide (("group" : Str) = "join") || decide (("group" : Str) = "choice")) = false; decide +kernel) ?_
    refine rd_eq (f := .grp f1) (i := 0) rfl (hf.same s1) ?_
    refine ifF (by show decide (("group" : Str) = "nested") = false; decide +kernel) ?_
    refine rd_in2 (f := .grp f1) (i := 0) rfl (hf.same s1) fun H2 s2 => ?_
    refine ifT (by show (decide (("group" : Str) = "group") || decide (("group" : Str) = "flattened")) = true; decide +kernel) ?_
    obtain ⟨a, x, rfl, h2, h3⟩ := hf
    have s12 := s1.trans s2
    refine ⟨_, rfl, a, _, 1, x, rfl, rfl, Same.seqT s12 h2, rfl, le_line (by simp), fun q hq => ?_⟩
    have s3 := Same.upd2 (o := .lst [x]) s12 hq
    exact hQ q _ _ s3 (s12.free hq) upd_same ⟨h3.same s3, trivial⟩
  | fla f1 =>
    refine ifF (by show (decide (("flattened" : Str) = "join") || decide (("flattened" : Str) = "choice")) = false; decide +kernel) ?_
    refine rd_eq (f := .fla f1) (i := 0) rfl (hf.same s1) ?_
    refine ifF (by show decide (("flattened" : Str) = "nested") = false; decide +kernel) ?_
    refine rd_in2 (f := .fla f1) (i := 0) rfl (hf.same s1) fun H2 s2 => ?_
    refine ifT (by show (decide (("flattened" : Str) = "group") || decide (("flattened" : Str) = "flattened")) = true; decide +kernel) ?_
    obtain ⟨a, x, rfl, h2, h3⟩ := hf
    have s12 := s1.trans s2
    refine ⟨_, rfl, a, _, 1, x, rfl, rfl, Same.seqT s12 h2, rfl, le_line (by simp), fun q hq => ?_⟩
    have s3 := Same.upd2 (o := .lst [x]) s12 hq
    exact hQ q _ _ s3 (s12.free hq) upd_same ⟨h3.same s3, trivial⟩
  | txt z =>
    refine ifF (by show (decide (("text" : Str) = "join") || decide (("text" : Str) = "choice")) = false; decide +kernel) ?_
    refine rd_eq (f := .txt z) (i := 0) rfl (hf.same s1) ?_
    refine ifF (by show decide (("text" : Str) = "nested") = false; decide +kernel) ?_
    refine rd_in2 (f := .txt z) (i := 0) rfl (hf.same s1) fun H2 s2 => ?_
    refine ifF (by show (decide (("text" : Str) = "group") || decide (("text" : Str) = "flattened")) = false; decide +kernel) ?_
    exact ⟨Nat.zero_le _, fun q hq => hQ q _ _ (Same.upd2 (s1.trans s2) hq) ((s1.trans s2).free hq) upd_same trivial⟩
  | brk z =>
    refine ifF (by show (decide (("break" : Str) = "join") || decide (("break" : Str) = "choice")) = false; decide +kernel) ?_
    refine rd_eq (f := .brk z) (i := 0) rfl (hf.same s1) ?_
    refine ifF (by show decide (("break" : Str) = "nested") = false; decide +kernel) ?_
    refine rd_in2 (f := .brk z) (i := 0) rfl (hf.same s1) fun H2 s2 => ?_
    refine ifF (by show (decide (("break" : Str) = "group") || decide (("break" : Str) = "flattened")) = false; decide +kernel) ?_
    exact ⟨Nat.zero_le _, fun q hq => hQ q _ _ (Same.upd2 (s1.trans s2) hq) ((s1.trans s2).free hq) upd_same trivial⟩
  | hol z =>
    refine ifF (by show (decide (("hole" : Str) = "join") || decide (("hole" : Str) = "choice")) = false; decide +kernel) ?_
    refine rd_eq (f := .hol z) (i := 0) rfl (hf.same s1) ?_
    refine ifF (by show decide (("hole" : Str) = "nested") = false; decide +kernel) ?_
    refine rd_in2 (f := .hol z) (i := 0) rfl (hf.same s1) fun H2 s2 => ?_
    refine ifF (by show (decide (("hole" : Str) = "group") || decide (("hole" : Str) = "flattened")) = false; decide +kernel) ?_
    exact ⟨Nat.zero_le _, fun q hq => hQ q _ _ (Same.upd2 (s1.trans s2) hq) ((s1.trans s2).free hq) upd_same trivial⟩
end
end Q41
set_option maxRecDepth 100000
set_option maxHeartbeats 4000000
/-! all_forms, filled_form. -/
namespace Q41
open PySem PySem.Spec PyProof.Rows L2
section
variable {P : Program} {w : World} {K : PySem.W.Frag} {mg : Str → Option Value} {base : Heap} {f fI : Addr}
theorem has_inner (T : TopDef K mg "inner_forms" (top 17) [] f) : Has P w K mg base 1 "inner_forms" f ["form"] (spInner K) :=
  mkHas T (ok_inner T.d) (T.d.bindsN fun _ _ _ _ _ _ us hl => match us, hl with | [_], _ => rfl)
theorem sc_allf : FnScope ["form", "found", "at"] ["form"] (defScope (top 18)) := mkScope
def spAllf (K : PySem.W.Frag) : Sp := fun vs H Q _ => ∃ f v, vs = [v] ∧ FmAt K H f v ∧ f.size ≤ 1000 ∧ ∀ l fs us H', Same H H' → H l = none → H' l = some (.lst us) → FmsAt K H' fs us → fs.length = f.size → (∀ n, n ∈ f.holes ↔ ∃ p ∈ fs, p = .hol n) → Q (.ref l) H'
def invA (f : Fm) (fs : List Fm) (i : Nat) : Prop := i ≤ fs.length ∧ ((fs.drop i).map Fm.size).sum + i = f.size ∧ ∀ n, n ∈ f.holes ↔ (∃ p ∈ fs.take i, p = .hol n) ∨ ∃ p ∈ fs.drop i, n ∈ p.holes
theorem invA.next {f f0 : Fm} {fs : List Fm} {i : Nat} (h : invA f fs i) (e : fs[i]? = some f0) : i < f.size ∧ invA f (fs ++ f0.inner) (i + 1) := by
  obtain ⟨h1, h2, h3⟩ := h
  have hlt : i < fs.length := (List.getElem?_eq_some_iff.mp e).1
  have hd : fs.drop i = f0 :: fs.drop (i + 1) := by
    rw [List.drop_eq_getElem_cons hlt]
    rw [List.getElem?_eq_getElem hlt] at e
    injection e with e
    rw [e]
  have hdd : (fs ++ f0.inner).drop (i + 1) = fs.drop (i + 1) ++ f0.inner := List.drop_append_of_le_length hlt
  have htt : (fs ++ f0.inner).take (i + 1) = fs.take i ++ [f0] := by
    rw [List.take_append_of_le_length hlt, List.take_add_one, e]
    rfl
  rw [hd, List.map_cons, List.sum_cons] at h2
  have hs := f0.inner_size
  refine ⟨by have := f0.size_pos; omega, by rw [List.length_append]; omega, ?_, fun n => ?_⟩
  · rw [hdd, List.map_append, List.sum_append]
    omega
  · rw [h3 n, hdd, htt, hd]
    simp only [List.mem_append, List.mem_cons, List.not_mem_nil, or_false]
    rcases f0.inner_holes with ⟨m, rfl, e1, e2⟩ | ⟨no, e1⟩
    · rw [e2]
      constructor
      · rintro (⟨p, hp, q⟩ | ⟨p, hp | hp, q⟩)
        · exact .inl ⟨p, .inl hp, q⟩
        · subst hp
          rw [e1] at q
          simp at q
          exact .inl ⟨_, .inr rfl, by rw [q]⟩
        · exact .inr ⟨p, .inl hp, q⟩
      · rintro (⟨p, hp | hp, q⟩ | ⟨p, hp | hp, q⟩)
        · exact .inl ⟨p, hp, q⟩
        · subst hp
          exact .inr ⟨_, .inl rfl, by rw [q]; simp [Fm.holes]⟩
        · exact .inr ⟨p, .inr hp, q⟩
        · cases hp
    · constructor
      · rintro (⟨p, hp, q⟩ | ⟨p, hp | hp, q⟩)
        · exact .inl ⟨p, .inl hp, q⟩
        · subst hp
          obtain ⟨r, hr, q⟩ := (e1 n).mp q
          exact .inr ⟨r, .inr hr, q⟩
        · exact .inr ⟨p, .inl hp, q⟩
      · rintro (⟨p, hp | hp, q⟩ | ⟨p, hp | hp, q⟩)
        · exact .inl ⟨p, hp, q⟩
        · subst hp
          exact absurd q (no n)
        · exact .inr ⟨p, .inr hp, q⟩
        · exact .inr ⟨f0, .inl rfl, (e1 n).mpr ⟨p, hp, q⟩⟩
theorem ok_allf (F : DefAt K "all_forms" "all_forms" (top 18) [] f) (h_inner_forms : Has P w K mg base 1 "inner_forms" fI ["form"] (spInner K)) (g_len : mg "len" = none) : FnOk P w K mg base (L2.CX P w) 2 f (fdOf K f) ["form"] (spAllf K) := by
  refine F.ok sc_allf (fun vs H Q E ⟨_, _, e, _⟩ => by rw [e] <;> rfl) (fun cdv A outer s H vs Q E hr ⟨f, v, ev, hf, hz, hQ⟩ => ⟨_, PSs.nox (pss_cons (ps_set (i := 1) sc_allf.nd rfl (.inl rfl) (pe_lst (pa_cons (pv 0) pa_nil))) (pss_cons (ps_set (i := 2) sc_allf.nd rfl (.inl rfl) pe_int) (pss_cons (ps_while PassesOwn.never (pt_cmpR op_lt (pv 2) (pe_callB call_len_seq rfl g_len Boot.«len» (pa_cons (pv 1) pa_nil)) (nomark _)) (pss_cons (ps_expr (pe_bm PySem.F.plainAttrs_list PySem.F.slot_list_extend PySem.F.type_list_extend mt_extend (pv 1) (pa_cons (pe_hc h_inner_forms (hr.mono (by omega)) rfl (pa_cons (pe_ix ix_seq (pv 1) (pv 2) (by intro _ _; rfl)) pa_nil)) pa_nil))) (pss_one (ps_aug (i := 2) sc_allf.nd rfl (.inl rfl) pe_int ip_add)))) (pss_one (ps_ret (pv 1)))))), ?_⟩)
  subst ev
  refine ⟨_, rfl, le_line (by simp), fun l hl => ?_⟩
  refine ⟨fun m σ H1 => ∃ (i : Nat) (fs : List Fm) (us : List V), σ = [some v, some (.ref l), some (.int i)] ∧ Same H H1 ∧ H1 l = some (.lst us) ∧ FmsAt K H1 fs us ∧ invA f fs i ∧ m = f.size - i,
    ⟨_, 0, [f], [v], rfl, Same.upd hl, upd_same, ⟨hf.same (Same.upd hl), trivial⟩, ⟨Nat.zero_le _, by simp, fun n => by simp⟩, rfl⟩, ?_⟩
  rintro m σ H1 ⟨i, fs, us, rfl, s1, e1, fm, iv, rfl⟩
  have hul := fm.length
  refine ⟨_, rfl, _, rfl, l, us, rfl, .inl (sqL_of e1), _, _, rfl, rfl, _, rfl, ?_⟩
  by_cases hlt : i < fs.length
  · refine ifT (decide_eq_true (by rw [hul]; omega)) ?_
    obtain ⟨v0, hv0⟩ : ∃ v0, us[i]? = some v0 := ⟨_, List.getElem?_eq_getElem (by rw [hul]; exact hlt)⟩
    obtain ⟨f0, hf0, fm0⟩ := fm.get hv0
    obtain ⟨hi, iv2⟩ := iv.next hf0
    have hat : atI us (i : Int) = some v0 := by
      unfold atI ixN
      rw [if_pos (by omega), if_pos (by rw [hul]; omega)]
      simpa using hv0
    refine ⟨fun σ' H' => ∃ (j : Nat) (fs : List Fm) (us : List V), σ' = [some v, some (.ref l), some (.int j)] ∧ Same H H' ∧ H' l = some (.lst us) ∧ FmsAt K H' fs us ∧ invA f fs j ∧ j = i + 1, ?_, ?_⟩
    · rintro σ' H' ⟨j, fs, us, rfl, s2, e2, fm2, iv2, rfl⟩
      exact ⟨f.size - (i + 1), by omega, _, fs, us, rfl, s2, e2, fm2, iv2, rfl⟩
    · refine ⟨_, rfl, .inl ⟨rfl, us, sqL_of e1⟩, _, rfl, _, rfl, .inl ⟨l, us, i, v0, rfl, rfl, sqL_of e1, hat, f0, v0, rfl, fm0, fun b ws H2 s2 hb e2 fm2 => ?_⟩⟩
      have e3 := s2 _ _ e1
      have hne : l ≠ b := fun z => by
        rw [← z, e1] at hb
        cases hb
      have hl2 := fm2.length
      have hin : f0.inner.length ≤ 2 := by cases f0 <;> simp [Fm.inner]
      have hbound : us.length ≤ 1000 := by
        have h2 := iv.2.1
        have h3 : (fs.drop i).length ≤ ((fs.drop i).map Fm.size).sum := by
          induction fs.drop i with
          | nil => exact Nat.le_refl _
          | cons a r ih =>
            have := a.size_pos
            simp only [List.length_cons, List.map_cons, List.sum_cons]
            omega
        rw [List.length_drop] at h3
        rw [hul]
        omega
      refine ⟨l, b, us, ws, rfl, rfl, e3, e2, by rw [sizeLine_eq]; omega, ?_⟩
      have s3 : Same H (upd H2 l (.lst (us ++ ws))) := (s1.trans s2).over hl
      refine ⟨_, rfl, i, 1, rfl, rfl, i + 1, fs ++ f0.inner, us ++ ws, rfl, s3, upd_same, ?_, iv2, rfl⟩
      exact ((fm.same s2).append fm2).mono (sqT_lst e3)
  · refine ifF (decide_eq_false (by rw [hul]; omega)) ?_
    have hi : i = fs.length := Nat.le_antisymm iv.1 (by omega)
    subst hi
    obtain ⟨_, h2, h3⟩ := iv
    rw [List.drop_length] at h2 h3
    rw [List.take_length] at h3
    refine ⟨_, rfl, hQ l fs us H1 s1 hl e1 fm (by simpa using h2) fun n => ?_⟩
    rw [h3 n]
    simp
theorem sc_fill : FnScope ["form", "fillings"] ["form", "fillings"] (defScope (top 19)) := mkScope
/-- what a dict of fillings says -/
def FillAt (K : PySem.W.Frag) (H : Hp) (g : Str → Option Fm) (kvs : List (Key × V)) : Prop := ∀ n, match valV kvs (.inr n) with
  | some x => ∃ f, g n = some f ∧ FmAt K H f x
  | none => g n = none
theorem FillAt.same {K : PySem.W.Frag} {H H' : Hp} (e : Same H H') {g : Str → Option Fm} {kvs : List (Key × V)} (h : FillAt K H g kvs) : FillAt K H' g kvs := fun n => by
  have := h n
  split at this
  · obtain ⟨f, h1, h2⟩ := this
    exact ⟨f, h1, h2.same e⟩
  · exact this
def spFill (K : PySem.W.Frag) (D : Nat) : Sp := fun vs H Q _ => ∃ f v d kvs g, vs = [v, .ref d] ∧ FmAt K H f v ∧ Rd H d (.dK kvs) ∧ FillAt K H g kvs ∧ f.depth < D ∧ ∀ v' H', Same H H' → FmAt K H' (f.fill g) v' → Q v' H'
theorem has_fill (T : TopDef K mg "filled_form" (top 19) [] f) : ∀ D, Has P w K mg base D "filled_form" f ["form", "fillings"] (spFill K D) := by
  intro D
  induction D with
  | zero => exact mkHas T ⟨fun vs H Q E ⟨_, _, _, _, _, _, _, _, _, h, _⟩ => absurd h (Nat.not_lt_zero _), fun A outer s H args us vs Q E _ _ _ _ ⟨_, _, _, _, _, _, _, _, _, h, _⟩ => absurd h (Nat.not_lt_zero _)⟩ (T.d.bindsN fun _ _ _ _ _ _ us hl => match us, hl with | [_, _], _ => rfl)
  | succ D ih =>
    refine mkHas T ?_ (T.d.bindsN fun _ _ _ _ _ _ us hl => match us, hl with | [_, _], _ => rfl)
    have IH : True → Has P w K mg base D "filled_form" f ["form", "fillings"] (spFill K D) := fun _ => ih
    refine T.d.ok sc_fill (fun vs H Q E ⟨_, _, _, _, _, e, _⟩ => by rw [e] <;> rfl) (fun cdv A outer s H vs Q E hr ⟨f, v, d, kvs, g, ev, hf, hd, hg, hD, hQ⟩ => ⟨_, PSs.nox (pss_cons (ps_if (pt_cmpR op_eq (pe_ix ix_tup (pv 0) pe_int (by intro _ _; rfl)) pe_str (nomark _)) (pss_one (ps_ret (pe_dget2 (hu_of hr) (pv 1) (pe_ix ix_tup (pv 0) pe_int (by intro _ _; rfl)) (pv 0) ⟨rfl, rfl, rfl, rfl⟩))) pss_nil) (pss_cons (ps_if (pt_cmpR op_in_seq (pe_ix ix_tup (pv 0) pe_int (by intro _ _; rfl)) (pe_tup (pa_cons pe_str (pa_cons pe_str pa_nil))) rfl) (pss_one (ps_ret (pe_tup (pa_cons (pe_ix ix_tup (pv 0) pe_int (by intro _ _; rfl)) (pa_cons (pe_hc (IH trivial) (hr.mono (by omega)) rfl (pa_cons (pe_ix ix_tup (pv 0) pe_int (by intro _ _; rfl)) (pa_cons (pv 1) pa_nil))) (pa_cons (pe_hc (IH trivial) (hr.mono (by omega)) rfl (pa_cons (pe_ix ix_tup (pv 0) pe_int (by intro _ _; rfl)) (pa_cons (pv 1) pa_nil))) pa_nil)))))) pss_nil) (pss_cons (ps_if (pt_cmpR op_eq (pe_ix ix_tup (pv 0) pe_int (by intro _ _; rfl)) pe_str (nomark _)) (pss_one (ps_ret (pe_tup (pa_cons pe_str (pa_cons (pe_ix ix_tup (pv 0) pe_int (by intro _ _; rfl)) (pa_cons (pe_hc (IH trivial) (hr.mono (by omega)) rfl (pa_cons (pe_ix ix_tup (pv 0) pe_int (by intro _ _; rfl)) (pa_cons (pv 1) pa_nil))) pa_nil)))))) pss_nil) (pss_cons (ps_if (pt_cmpR op_in_seq (pe_ix ix_tup (pv 0) pe_int (by intro _ _; rfl)) (pe_tup (pa_cons pe_str (pa_cons pe_str pa_nil))) rfl) (pss_one (ps_ret (pe_tup (pa_cons (pe_ix ix_tup (pv 0) pe_int (by intro _ _; rfl)) (pa_cons (pe_hc (IH trivial) (hr.mono (by omega)) rfl (pa_cons (pe_ix ix_tup (pv 0) pe_int (by intro _ _; rfl)) (pa_cons (pv 1) pa_nil))) pa_nil))))) pss_nil) (pss_one (ps_ret (pv 0))))))), ?_⟩)
    subst ev
    refine rd_eq (f := f) (i := 0) rfl hf ?_
    cases f with
    | hol n =>
      refine ifT (by show decide (("hole" : Str) = "hole") = true; decide +kernel) ?_
      obtain ⟨a, rfl, h2⟩ := hf
      refine ⟨_, rfl, d, rfl, .inl ⟨_, hd⟩, _, rfl, a, _, 1, .str n, rfl, rfl, h2, rfl, _, rfl, _, .inl ⟨kvs, .inr n, hd, rfl, rfl⟩, ?_⟩
      have hn := hg n
      cases hv : valV kvs (.inr n) with
      | some x =>
        rw [hv] at hn
        obtain ⟨f2, e2, fm⟩ := hn
        exact hQ x H (Same.refl _) (by simpa [Fm.fill, e2] using fm)
      | none =>
        rw [hv] at hn
        exact hQ _ H (Same.refl _) (by simpa [Fm.fill, hn] using ⟨a, rfl, h2⟩)
    | joi f1 f2 =>
      refine ifF (by show decide (("join" : Str) = "hole") = false; decide +kernel) ?_
      refine rd_in2 (f := .joi f1 f2) (i := 0) rfl hf fun H1 s1 => ?_
      refine ifT (by show (decide (("join" : Str) = "join") || decide (("join" : Str) = "choice")) = true; decide +kernel) ?_
      obtain ⟨a, x, y, rfl, h2, h3, h4⟩ := hf
      have h2' := Same.seqT s1 h2
      have hd1 : f1.depth < D ∧ f2.depth < D := by
        simp only [Fm.depth] at hD
        omega
      refine ⟨_, rfl, a, _, 0, _, rfl, rfl, h2', rfl, _, rfl, a, _, 1, x, rfl, rfl, h2', rfl, _, rfl, f1, x, d, kvs, g, rfl, h3.same s1, Same.rd s1 hd, hg.same s1, hd1.1, fun v1 H2 s2 m1 => ?_⟩
      have s12 := s1.trans s2
      have h2'' := Same.seqT s12 h2
      refine ⟨_, rfl, a, _, 2, y, rfl, rfl, h2'', rfl, _, rfl, f2, y, d, kvs, g, rfl, h4.same s12, Same.rd s12 hd, hg.same s12, hd1.2, fun v2 H3 s3 m2 => ?_⟩
      refine ⟨le_line (by simp), fun p hp => ?_⟩
      have s4 := Same.upd (o := .tup [.str "join", v1, v2]) hp
      exact hQ (.ref p) _ ((s12.trans s3).trans s4) ⟨p, v1, v2, rfl, sqT_of upd_same, m1.same (s3.trans s4), m2.same s4⟩
    | cho f1 f2 =>
      refine ifF (by show decide (("choice" : Str) = "hole") = false; decide +kernel) ?_
      refine rd_in2 (f := .cho f1 f2) (i := 0) rfl hf fun H1 s1 => ?_
      refine ifT (by show (decide (("choice" : Str) = "join") || decide (("choice" : Str) = "choice")) = true; decide +kernel) ?_
      obtain ⟨a, x, y, rfl, h2, h3, h4⟩ := hf
      have h2' := Same.seqT s1 h2
      have hd1 : f1.depth < D ∧ f2.depth < D := by
        simp only [Fm.depth] at hD
        omega
      refine ⟨_, rfl, a, _, 0, _, rfl, rfl, h2', rfl, _, rfl, a, _, 1, x, rfl, rfl, h2', rfl, _, rfl, f1, x, d, kvs, g, rfl, h3.same s1, Same.rd s1 hd, hg.same s1, hd1.1, fun v1 H2 s2 m1 => ?_⟩
      have s12 := s1.trans s2
      have h2'' := Same.seqT s12 h2
      refine ⟨_, rfl, a, _, 2, y, rfl, rfl, h2'', rfl, _, rfl, f2, y, d, kvs, g, rfl, h4.same s12, Same.rd s12 hd, hg.same s12, hd1.2, fun v2 H3 s3 m2 => ?_⟩
      refine ⟨le_line (by simp), fun p hp => ?_⟩
      have s4 := Same.upd (o := .tup [.str "choice", v1, v2]) hp
      exact hQ (.ref p) _ ((s12.trans s3).trans s4) ⟨p, v1, v2, rfl, sqT_of upd_same, m1.same (s3.trans s4), m2.same s4⟩
    | nes k f1 =>
      refine ifF (by show decide (("nested" : Str) = "hole") = false; decide +kernel) ?_
      refine rd_in2 (f := .nes k f1) (i := 0) rfl hf fun H1 s1 => ?_
      refine ifF (by show (decide (("nested" : Str) = "join") || decide (("nested" : Str) = "choice")) = false; decide +kernel) ?_
      refine rd_eq (f := .nes k f1) (i := 0) rfl (hf.same s1) ?_
      refine ifT (by show decide (("nested" : Str) = "nested") = true; decide +kernel) ?_
      obtain ⟨a, x, rfl, h2, h3⟩ := hf
      have h2' := Same.seqT s1 h2
      refine ⟨_, rfl, a, _, 1, _, rfl, rfl, h2', rfl, _, rfl, a, _, 2, x, rfl, rfl, h2', rfl, _, rfl, f1, x, d, kvs, g, rfl, h3.same s1, Same.rd s1 hd, hg.same s1, (by simp only [Fm.depth] at hD; omega), fun v1 H2 s2 m1 => ?_⟩
      refine ⟨le_line (by simp), fun p hp => ?_⟩
      have s4 := Same.upd (o := .tup [.str "nested", .int k, v1]) hp
      exact hQ (.ref p) _ ((s1.trans s2).trans s4) ⟨p, v1, rfl, sqT_of upd_same, m1.same s4⟩
    | grp f1 =>
      refine ifF (by show decide (("group" : Str) = "hole") = false; decide +kernel) ?_
      refine rd_in2 (f := .grp f1) (i := 0) rfl hf fun H1 s1 => ?_
      refine ifF (by show (decide (("group" : Str) = "join") || decide (("group" : Str) = "choice")) = false; decide +kernel) ?_
      refine rd_eq (f := .grp f1) (i := 0) rfl (hf.same s1) ?_
      refine ifF (by show decide (("group" : Str) = "nested") = false; decide +kernel) ?_
      refine rd_in2 (f := .grp f1) (i := 0) rfl (hf.same s1) fun H1' s1' => ?_
      refine ifT (by show (decide (("group" : Str) = "group") || decide (("group" : Str) = "flattened")) = true; decide +kernel) ?_
      obtain ⟨a, x, rfl, h2, h3⟩ := hf
      have s11 := s1.trans s1'
      have h2' := Same.seqT s11 h2
      refine ⟨_, rfl, a, _, 0, _, rfl, rfl, h2', rfl, _, rfl, a, _, 1, x, rfl, rfl, h2', rfl, _, rfl, f1, x, d, kvs, g, rfl, h3.same s11, Same.rd s11 hd, hg.same s11, (by simp only [Fm.depth] at hD; omega), fun v1 H2 s2 m1 => ?_⟩
      refine ⟨le_line (by simp), fun p hp => ?_⟩
      have s4 := Same.upd (o := .tup [.str "group", v1]) hp
      exact hQ (.ref p) _ ((s11.trans s2).trans s4) ⟨p, v1, rfl, sqT_of upd_same, m1.same s4⟩
    | fla f1 =>
      refine ifF (by show decide (("flattened" : Str) = "hole") = false; decide +kernel) ?_
      refine rd_in2 (f := .fla f1) (i := 0) rfl hf fun H1 s1 => ?_
      refine ifF (by show (decide (("flattened" : Str) = "join") || decide (("flattened" : Str) = "choice")) = false; decide +kernel) ?_
      refine rd_eq (f := .fla f1) (i := 0) rfl (hf.same s1) ?_
      refine ifF (by show decide (("flattened" : Str) = "nested") = false; decide +kernel) ?_
      refine rd_in2 (f := .fla f1) (i := 0) rfl (hf.same s1) fun H1' s1' => ?_
      refine ifT (by show (decide (("flattened" : Str) = "group") || decide (("flattened" : Str) = "flattened")) = true; decide +kernel) ?_
      obtain ⟨a, x, rfl, h2, h3⟩ := hf
      have s11 := s1.trans s1'
      have h2' := Same.seqT s11 h2
      refine ⟨_, rfl, a, _, 0, _, rfl, rfl, h2', rfl, _, rfl, a, _, 1, x, rfl, rfl, h2', rfl, _, rfl, f1, x, d, kvs, g, rfl, h3.same s11, Same.rd s11 hd, hg.same s11, (by simp only [Fm.depth] at hD; omega), fun v1 H2 s2 m1 => ?_⟩
      refine ⟨le_line (by simp), fun p hp => ?_⟩
      have s4 := Same.upd (o := .tup [.str "flattened", v1]) hp
      exact hQ (.ref p) _ ((s11.trans s2).trans s4) ⟨p, v1, rfl, sqT_of upd_same, m1.same s4⟩
    | txt z =>
      refine ifF (by show decide (("text" : Str) = "hole") = false; decide +kernel) ?_
      refine rd_in2 (f := .txt z) (i := 0) rfl hf fun H1 s1 => ?_
      refine ifF (by show (decide (("text" : Str) = "join") || decide (("text" : Str) = "choice")) = false; decide +kernel) ?_
      refine rd_eq (f := .txt z) (i := 0) rfl (hf.same s1) ?_
      refine ifF (by show decide (("text" : Str) = "nested") = false; decide +kernel) ?_
      refine rd_in2 (f := .txt z) (i := 0) rfl (hf.same s1) fun H2 s2 => ?_
      refine ifF (by show (decide (("text" : Str) = "group") || decide (("text" : Str) = "flattened")) = false; decide +kernel) ?_
      exact ⟨_, rfl, hQ v H2 (s1.trans s2) (hf.same (s1.trans s2))⟩
    | brk z =>
      refine ifF (by show decide (("break" : Str) = "hole") = false; decide +kernel) ?_
      refine rd_in2 (f := .brk z) (i := 0) rfl hf fun H1 s1 => ?_
      refine ifF (by show (decide (("break" : Str) = "join") || decide (("break" : Str) = "choice")) = false; decide +kernel) ?_
      refine rd_eq (f := .brk z) (i := 0) rfl (hf.same s1) ?_
      refine ifF (by show decide (("break" : Str) = "nested") = false; decide +kernel) ?_
      refine rd_in2 (f := .brk z) (i := 0) rfl (hf.same s1) fun H2 s2 => ?_
      refine ifF (by show (decide (("break" : Str) = "group") || decide (("break" : Str) = "flattened")) = false; decide +kernel) ?_
      exact ⟨_, rfl, hQ v H2 (s1.trans s2) (hf.same (s1.trans s2))⟩
end
end Q41
set_option maxRecDepth 100000
set_option maxHeartbeats 4000000
/-! Doc. -/
namespace Q41
open PySem PySem.Spec PyProof.Rows L2
theorem scT_same {w : World} {K : PySem.W.Frag} {a : Addr} {xs : List V} {g : TG} {tt : TT} {te : TE} {vs : List Nat} {σ : L2.St} {H1 : Hp} {D : Addr} {Qd : Hp → Prop} (f : Nat → Option Str)
    (hz : xs.length < 100) (hD : H1 D = none) (hl : ∀ H, Same H1 H → SqL K H a xs)
    (hs : ∀ i x, xs[i]? = some x → ∀ H, Same H1 H → ∀ (P1 : V → Hp → Prop) (P0 : Hp → Prop), (∀ z H', f i = some z → Same H H' → P1 (.str z) H') → (∀ H', f i = none → Same H H' → P0 H') → g x (wipe σ vs) H fun σ2 H2 => wipe σ2 vs = wipe σ vs ∧ tt σ2 H2 fun b H3 => if b = true then te σ2 H3 P1 else P0 H3)
    (hd : ∀ H, Same H1 H → H D = some (SetTO w D ((List.range xs.length).filterMap f).reverse) → Qd H) :
    ∃ W : Nat → Nat → Hp → Prop, (∃ m, W 0 m (upd H1 D (SetTO w D []))) ∧ ∀ i m H, W i m H →
      ((Itl K a).stop i H ∧ Qd H) ∨ ((Itl K a).go i H ∧ ∃ Nx : Hp → Prop, (∀ H', Nx H' → ∃ m', m' < m ∧ W (i + 1) m' H') ∧ ∀ x H', (Itl K a).yld i H x H' → g x (wipe σ vs) H' fun σ2 H2 => wipe σ2 vs = wipe σ vs ∧ tt σ2 H2 fun b H3 =>
        if b = true then te σ2 H3 fun y H4 => ∃ (x : Str) (l : List Str), y = .str x ∧ H4 D = some (SetTO w D l) ∧ l.length + 1 < scanBound ∧ Nx (upd H4 D (SetTO w D (x :: l))) else Nx H3) := by
  refine scT_list (fun i H => Same H1 H ∧ H D = some (SetTO w D ((List.range i).filterMap f).reverse)) ⟨Same.upd hD, upd_same⟩ (fun i H _ h => hl H h.1) (fun i x H hx ⟨h1, h2⟩ => ?_) fun H ⟨h1, h2⟩ => hd H h1 h2
  have hi : i < xs.length := (List.getElem?_eq_some_iff.mp hx).1
  have hb : (((List.range i).filterMap f).reverse).length + 1 < scanBound := by
    have := List.length_filterMap_le f (List.range i)
    rw [List.length_range] at this
    rw [List.length_reverse]
    have : scanBound > 200 := by decide
    omega
  have ht : (List.range (i + 1)).filterMap f = (List.range i).filterMap f ++ (f i).toList := by
    rw [List.range_succ, List.filterMap_append]
    simp only [List.filterMap_cons, List.filterMap_nil]
    cases f i <;> rfl
  refine hs i x hx H h1 _ _ (fun z H4 hf s4 => ⟨z, _, rfl, s4 _ _ h2, hb, (h1.trans s4).over hD, by rw [upd_same, ht, hf]; simp⟩) fun H4 hf s4 => ⟨h1.trans s4, by rw [ht, hf, s4 _ _ h2]; simp⟩
theorem pe_scU {X : Cx} {elt tg iter : Expr} {ifs : List Expr} {scope : Scope} {own : List (Str × Nat)} {pos : Pos} {wi : TI} {g : TG} {tt : TT} {te : TE} (hc : X.calm = true) (hN : X.N.Nodup) (hi : PI X tg iter wi) (ok : BlkOk X.N X.env.scope scope own)
    (hg : ∀ (s : Shared) (H : Hp) (C : Addr) (cl : List (Str × Addr)) (fp : List Addr), PG (X.blk s H scope (compEnvC scope cl C X.env) fp) tg g)
    (ht : ∀ (s : Shared) (H : Hp) (C : Addr) (cl : List (Str × Addr)) (fp : List Addr), PTs (X.blk s H scope (compEnvC scope cl C X.env) fp) ifs tt)
    (he : ∀ (s : Shared) (H : Hp) (C : Addr) (cl : List (Str × Addr)) (fp : List Addr), PE (X.blk s H scope (compEnvC scope cl C X.env) fp) elt te)
    (hs : ∀ x, foldedSetIterable iter X.env x = pure x := by intro _; rfl) : PE X (.SetComp elt [⟨tg, iter, ifs, 0⟩] scope pos) (tScT X.w wi g tt te (own.map (·.2))) := pe_scT hc hN hi ok hg ht he hs
/-- the getter's address of a property -/
def pA (K : PySem.W.Frag) (C : Addr) (m : Str) : Addr := match PySem.W.recIn K (He.ma K C m) "property" with
  | some (.ref g :: _) => g
  | _ => 0
/-- what is known of the class Doc -/
structure DocTx (K : PySem.W.Frag) (mg : Str → Option Value) : Prop where
  c : Cls K (DC K)
  sh : NoAttr K (DC K) "shape"
  g : mg "Doc" = some (.ref (DC K))
  made : Mk K (DC K) (He.ma K (DC K) "__init__")
  d_init : DefAt K "__init__" "Doc.__init__" (mem 20 0) [] (He.ma K (DC K) "__init__")
  p_form : PropOf K (DC K) "form" (He.ma K (DC K) "form") (pA K (DC K) "form")
  d_form : DefAt K "form" "Doc.form" (mem 20 1) [] (pA K (DC K) "form")
  p_parts : PropOf K (DC K) "parts" (He.ma K (DC K) "parts") (pA K (DC K) "parts")
  d_parts : DefAt K "parts" "Doc.parts" (mem 20 2) [] (pA K (DC K) "parts")
  p_holes : PropOf K (DC K) "holes" (He.ma K (DC K) "holes") (pA K (DC K) "holes")
  d_holes : DefAt K "holes" "Doc.holes" (mem 20 3) [] (pA K (DC K) "holes")
  o_add : OpOf K (DC K) (He.ma K (DC K) "__add__") "__add__"
  d_add : DefAt K "__add__" "Doc.__add__" (mem 20 6) [] (He.ma K (DC K) "__add__")
  o_or : OpOf K (DC K) (He.ma K (DC K) "__or__") "__or__"
  d_or : DefAt K "__or__" "Doc.__or__" (mem 20 7) [] (He.ma K (DC K) "__or__")
  m_nested : Meth K (DC K) "nested" (He.ma K (DC K) "nested")
  d_nested : DefAt K "nested" "Doc.nested" (mem 20 9) [] (He.ma K (DC K) "nested")
  m_group : Meth K (DC K) "group" (He.ma K (DC K) "group")
  d_group : DefAt K "group" "Doc.group" (mem 20 10) [] (He.ma K (DC K) "group")
  m_flat : Meth K (DC K) "flattened" (He.ma K (DC K) "flattened")
  d_flat : DefAt K "flattened" "Doc.flattened" (mem 20 11) [] (He.ma K (DC K) "flattened")
  o_class : PySem.W.findIn K (.ref (DC K)) "__class__" = some (some (.builtin "object.__class__"))
  o_get : PySem.W.specialIn K (.builtin "object.__class__") "__get__" = some (some (.builtin "getset_descriptor.__get__"))
  o_take : PySem.W.takesIn K (.builtin "object.__class__") = some true
  o_mro : PySem.W.mroIn K (DC K) (.type "object") = some true
  o_isi : PySem.W.kitOne K (.ref (DC K)) (.ref (DC K)) = some true
theorem DocTx.ty {K : PySem.W.Frag} {mg : Str → Option Value} (D : DocTx K mg) {H : Hp} {f : Fm} {v : V} (h : DocAt K H f v) : TyX K H v (.ref (DC K)) := by
  obtain ⟨a, dx, s, rfl, h2, _⟩ := h
  exact .base (.ins h2 D.c D.o_class D.o_get D.o_take D.o_mro)
section
variable {P : Program} {w : World} {K : PySem.W.Frag} {mg : Str → Option Value} {base : Heap} {f fA fI : Addr}
theorem sc_dinit : FnScope ["self", "shape"] ["self", "shape"] (defScope (mem 20 0)) := mkScope
def spDInit (K : PySem.W.Frag) : Sp := fun vs H Q _ => ∃ x dx s, vs = [.ref x, s] ∧ H x = some (.ins (DC K) dx []) ∧ Q .non (upd H x (.ins (DC K) dx [("shape", s)]))
theorem has_Doc (D : DocTx K mg) : HasC P w K mg base 1 "Doc" (DC K) (He.ma K (DC K) "__init__") ["self", "shape"] (spDInit K) := by
  refine ⟨?_, D.g, D.made, D.d_init.bindsN fun _ _ _ _ _ _ us hl => match us, hl with | [_, _], _ => rfl⟩
  refine D.d_init.ok sc_dinit (fun vs H Q E ⟨_, _, _, e, _⟩ => by rw [e] <;> rfl) (fun cdv A outer s H vs Q E hr ⟨x, dx, s, ev, hx, hQ⟩ => ⟨_, PSs.nox (pss_one (ps_fld (pv 0) (pv 1) rfl)), ?_⟩)
  subst ev
  exact ⟨_, rfl, _, rfl, x, _, dx, [], rfl, hx, D.c, D.sh, by simp, hQ⟩
/-- a document is made -/
theorem mk_doc {H1 : Hp} {Q : VK} {s : V} {f : Fm} (hf : FmAt K H1 f s) (hQ : ∀ v H', Same H1 H' → DocAt K H' f v → Q v H') :
    ∀ x dx, H1 x = none → H1 dx = none → dx ≠ x → spDInit K (.ref x :: ([s] ++ [])) (upd (upd H1 dx (.own x)) x (.ins (DC K) dx [])) (fun v H2 => v = .non ∧ Q (.ref x) H2) E0 := by
  intro x dx hx hdx hne
  refine ⟨x, dx, s, rfl, upd_same, rfl, ?_⟩
  have s1 : Same H1 (upd (upd (upd H1 dx (.own x)) x (.ins (DC K) dx [])) x (.ins (DC K) dx [("shape", s)])) := ((Same.upd hdx).over hx).over hx
  exact hQ _ _ s1 ⟨x, dx, s, rfl, upd_same, hf.same s1⟩
theorem sc_form : FnScope ["self"] ["self"] (defScope (mem 20 1)) := mkScope
def spForm (K : PySem.W.Frag) : Sp := fun vs H Q _ => ∃ a dx s, vs = [.ref a] ∧ H a = some (.ins (DC K) dx [("shape", s)]) ∧ Q s H
theorem hp_form (D : DocTx K mg) : HasP P w K mg base 1 (DC K) "form" (He.ma K (DC K) "form") (pA K (DC K) "form") ["self"] (spForm K) := by
  refine ⟨?_, D.c, D.p_form, D.d_form.bindsN fun _ _ _ _ _ _ us hl => match us, hl with | [_], _ => rfl⟩
  refine D.d_form.ok sc_form (fun vs H Q E ⟨_, _, _, e, _⟩ => by rw [e] <;> rfl) (fun cdv A outer s H vs Q E hr ⟨a, dx, s, ev, ha, hQ⟩ => ⟨_, PSs.nox (pss_one (ps_ret (fld K (pv 0)))), ?_⟩)
  subst ev
  exact ⟨_, rfl, a, _, dx, _, s, rfl, ha, D.c, D.sh, rfl, hQ⟩
theorem sc_parts : FnScope ["self"] ["self"] (defScope (mem 20 2)) := mkScope
def spParts (K : PySem.W.Frag) : Sp := fun vs H Q _ => ∃ f v, vs = [v] ∧ DocAt K H f v ∧ f.size ≤ 1000 ∧ ∀ H', Same H H' → Q (.int f.size) H'
theorem hp_parts (D : DocTx K mg) (h_all_forms : Has P w K mg base 2 "all_forms" fA ["form"] (spAllf K)) (g_len : mg "len" = none) : HasP P w K mg base 3 (DC K) "parts" (He.ma K (DC K) "parts") (pA K (DC K) "parts") ["self"] (spParts K) := by
  refine ⟨?_, D.c, D.p_parts, D.d_parts.bindsN fun _ _ _ _ _ _ us hl => match us, hl with | [_], _ => rfl⟩
  refine D.d_parts.ok sc_parts (fun vs H Q E ⟨_, _, e, _⟩ => by rw [e] <;> rfl) (fun cdv A outer s H vs Q E hr ⟨f, v, ev, hd, hz, hQ⟩ => ⟨_, PSs.nox (pss_one (ps_ret (pe_callB (lenq K) rfl g_len Boot.«len» (pa_cons (pe_hc h_all_forms (hr.mono (by omega)) rfl (pa_cons (fld K (pv 0)) pa_nil)) pa_nil)))), ?_⟩)
  subst ev
  obtain ⟨a, dx, s, rfl, ha, hf⟩ := hd
  refine ⟨_, rfl, a, _, dx, _, s, rfl, ha, D.c, D.sh, rfl, f, s, rfl, hf, hz, fun l fs us H' s1 hl e1 fm hn _ => ?_⟩
  refine ⟨l, us, rfl, .inl (sqL_of e1), ?_⟩
  rw [fm.length, hn]
  exact hQ H' s1
theorem sc_holes : FnScope ["self", "form"] ["self"] (defScope (mem 20 3)) := mkScope
def spHoles (K : PySem.W.Frag) : Sp := fun vs H Q _ => ∃ f v, vs = [v] ∧ DocAt K H f v ∧ f.size ≤ 60 ∧ ∀ q H', Same H H' → H q = none → H' q = some (.tup ((nrm f.holes).map .str)) → Q (.ref q) H'
def holeOf : Fm → Option Str
  | .hol n => some n
  | _ => none
theorem hp_holes (D : DocTx K mg) (h_all_forms : Has P w K mg base 2 "all_forms" fA ["form"] (spAllf K)) (g_tuple : mg "tuple" = none) (g_sorted : mg "sorted" = none) : HasP P w K mg base 3 (DC K) "holes" (He.ma K (DC K) "holes") (pA K (DC K) "holes") ["self"] (spHoles K) := by
  refine ⟨?_, D.c, D.p_holes, D.d_holes.bindsN fun _ _ _ _ _ _ us hl => match us, hl with | [_], _ => rfl⟩
  refine D.d_holes.ok sc_holes (fun vs H Q E ⟨_, _, e, _⟩ => by rw [e] <;> rfl) (fun cdv A outer s H vs Q E hr ⟨f, v, ev, hd, hz, hQ⟩ => ⟨_, PSs.nox (pss_one (ps_ret (tupq K rfl g_tuple (pe_callB (srtT w) rfl g_sorted Boot.«sorted» (pa_cons (pe_scU (own := [("form", 1)]) rfl sc_holes.nd (pil K (pe_hc h_all_forms (hr.mono (by omega)) rfl (pa_cons (fld K (pv 0)) pa_nil))) (mkBlk (N := ["self", "form"]) (sc := defScope (mem 20 3))) (fun _ _ _ _ _ => pg_name sc_holes.nd (i := 1) rfl (.inl rfl)) (fun _ _ _ _ _ => (pts_one (pt_cmpR op_eq (pe_ix (ixT K) (pv 1) pe_int (by intro _ _; rfl)) pe_str (nomark _)))) (fun _ _ _ _ _ => (pe_ix (ixT K) (pv 1) pe_int (by intro _ _; rfl)))) pa_nil))))), ?_⟩)
  subst ev
  obtain ⟨a, dx, s, rfl, ha, hf⟩ := hd
  refine ⟨_, rfl, a, _, dx, _, s, rfl, ha, D.c, D.sh, rfl, f, s, rfl, hf, by omega, fun l fs us H1 s1 hl e1 fm hn hh => ?_⟩
  refine ⟨l, rfl, ⟨us, sqL_of e1⟩, fun S hS => ?_⟩
  have hus : us.length ≤ 60 := by rw [fm.length, hn]; exact hz
  refine scT_same (fun i => (fs[i]?).bind holeOf) (by omega) hS (fun H2 s2 => sqL_of (s2 _ _ e1)) (fun i x hx H2 s2 P1 P0 q1 q0 => ?_) fun H2 s2 e2 => ?_
  · obtain ⟨f0, hf0, fm0⟩ := fm.get hx
    have fm2 := fm0.same s2
    refine ⟨rfl, ?_⟩
    refine rd_eq (f := f0) (i := 1) rfl fm2 ?_
    by_cases ht : f0.tag = "hole"
    · refine ifT (decide_eq_true ht) ?_
      cases f0 with
      | hol n =>
        obtain ⟨b, rfl, h2⟩ := fm2
        exact ⟨_, rfl, b, _, 1, .str n, rfl, rfl, h2, rfl, q1 n H2 (by rw [hf0]; rfl) (Same.refl _)⟩
      | _ => exact absurd ht (by simp only [Fm.tag]; decide +kernel)
    · refine ifF (decide_eq_false ht) (q0 H2 ?_ (Same.refl _))
      rw [hf0]
      cases f0 with
      | hol n => exact absurd rfl ht
      | _ => rfl
  · refine ⟨S, _, rfl, e2, ?_, fun ys p h1 h2 h3 h4 hp => ?_⟩
    · have := List.length_filterMap_le (fun i => (fs[i]?).bind holeOf) (List.range us.length)
      rw [List.length_range] at this
      rw [List.length_reverse]
      omega
    · have s3 := (s1.trans s2).trans (Same.upd (o := .lst (ys.map V.str)) hp)
      have ey : ys = nrm f.holes := nrm_eq h1 h2 fun z => by
        rw [h3 z, hh z, List.mem_reverse, List.mem_filterMap]
        constructor
        · rintro ⟨i, _, e⟩
          obtain ⟨f0, hf0, e⟩ := Option.bind_eq_some_iff.mp e
          refine ⟨f0, List.mem_of_getElem? hf0, ?_⟩
          cases f0 <;> simp [holeOf] at e
          rw [e]
        · rintro ⟨p, hp, rfl⟩
          obtain ⟨i, hi, e⟩ := List.getElem_of_mem hp
          refine ⟨i, by rw [List.mem_range, fm.length]; exact hi, ?_⟩
          rw [List.getElem?_eq_getElem hi, e]
          rfl
      refine .inl ⟨p, _, rfl, sqL_of upd_same, fun q hq => ?_⟩
      have s4 := Same.upd2 (o := .tup (ys.map V.str)) s3 hq
      exact hQ q _ s4 (s3.free hq) (by rw [upd_same, ey])
end
end Q41
set_option maxRecDepth 100000
set_option maxHeartbeats 4000000
/-! Documents made. -/
namespace Q41
open PySem PySem.Spec PyProof.Rows L2
section
variable {P : Program} {w : World} {K : PySem.W.Frag} {mg : Str → Option Value} {base : Heap} {f fR fN fS fI fF : Addr}
theorem sc_req : FnScope ["thing"] ["thing"] (defScope (top 21)) := mkScope
def spReq (K : PySem.W.Frag) : Sp := fun vs H Q _ => ∃ f v, vs = [v] ∧ DocAt K H f v ∧ Q .non H
theorem has_req (D : DocTx K mg) (T : TopDef K mg "require_doc" (top 21) [] f) (g_isinstance : mg "isinstance" = none) : Has P w K mg base 1 "require_doc" f ["thing"] (spReq K) := by
  refine mkHas T ?_ (T.d.bindsN fun _ _ _ _ _ _ us hl => match us, hl with | [_], _ => rfl)
  refine T.d.ok sc_req (fun vs H Q E ⟨_, _, e, _⟩ => by rw [e] <;> rfl) (fun cdv A outer s H vs Q E hr ⟨f, v, ev, hd, hQ⟩ => ⟨_, PSs.nox (pss_one (ps_if (pt_not (pt_val (pe_callB (isi K) rfl g_isinstance Boot.«isinstance» (pa_cons (pv 0) (pa_cons (pe_glob rfl D.g (v := .ref _) rfl) pa_nil))))) (pss_one ps_never) pss_nil)), ?_⟩)
  subst ev
  refine ⟨_, rfl, _, _, _, _, _, rfl, .own _, D.ty hd, D.o_isi, _, rfl, ?_⟩
  exact ifF rfl hQ
theorem sc_add : FnScope ["self", "other"] ["self", "other"] (defScope (mem 20 6)) := mkScope
def sp_add (K : PySem.W.Frag) : Sp := fun vs H Q _ => ∃ f g v u, vs = [v, u] ∧ DocAt K H f v ∧ DocAt K H g u ∧ ∀ r H', Same H H' → DocAt K H' (.joi f g) r → Q r H'
theorem ok_add (D : DocTx K mg) (h_require_doc : Has P w K mg base 1 "require_doc" fR ["thing"] (spReq K)) : FnOk P w K mg base (L2.CX P w) 3 (He.ma K (DC K) "__add__") (fdOf K (He.ma K (DC K) "__add__")) ["self", "other"] (sp_add K) := by
  have h_Doc := has_Doc (P := P) (w := w) (base := base) D
  refine D.d_add.ok sc_add (fun vs H Q E ⟨_, _, _, _, e, _⟩ => by rw [e] <;> rfl) (fun cdv A outer s H vs Q E hr ⟨f, g, v, u, ev, hf, hg, hQ⟩ => ⟨_, PSs.nox (pss_cons (ps_expr (pe_hc h_require_doc (hr.mono (by omega)) rfl (pa_cons (pv 1) pa_nil))) (pss_one (ps_ret (pe_hk h_Doc (hr.mono (by omega)) rfl (pa_cons (pe_tup (pa_cons pe_str (pa_cons (fld K (pv 0)) (pa_cons (fld K (pv 1)) pa_nil)))) pa_nil))))), ?_⟩)
  subst ev
  refine ⟨_, rfl, g, u, rfl, hg, ?_⟩
  obtain ⟨a, dx, x, rfl, ha, hx⟩ := hf
  obtain ⟨b, dy, y, rfl, hb, hy⟩ := hg
  refine ⟨_, rfl, a, _, dx, _, x, rfl, ha, D.c, D.sh, rfl, _, rfl, b, _, dy, _, y, rfl, hb, D.c, D.sh, rfl, le_line (by simp), fun p hp => ?_⟩
  have s1 := Same.upd (o := .tup [.str "join", x, y]) hp
  exact mk_doc (f := .joi f g) ⟨p, x, y, rfl, sqT_of upd_same, hx.same s1, hy.same s1⟩ fun r H' s2 h => hQ r H' (s1.trans s2) h
theorem bn_add (D : DocTx K mg) : Binds K (fdOf K (He.ma K (DC K) "__add__")) ["self", "other"] [] := D.d_add.bindsN fun _ _ _ _ _ _ us hl => match us, hl with | [_, _], _ => rfl
theorem sc_or : FnScope ["self", "other"] ["self", "other"] (defScope (mem 20 7)) := mkScope
def sp_or (K : PySem.W.Frag) : Sp := fun vs H Q _ => ∃ f g v u, vs = [v, u] ∧ DocAt K H f v ∧ DocAt K H g u ∧ ∀ r H', Same H H' → DocAt K H' (.cho f g) r → Q r H'
theorem ok_or (D : DocTx K mg) (h_require_doc : Has P w K mg base 1 "require_doc" fR ["thing"] (spReq K)) : FnOk P w K mg base (L2.CX P w) 3 (He.ma K (DC K) "__or__") (fdOf K (He.ma K (DC K) "__or__")) ["self", "other"] (sp_or K) := by
  have h_Doc := has_Doc (P := P) (w := w) (base := base) D
  refine D.d_or.ok sc_or (fun vs H Q E ⟨_, _, _, _, e, _⟩ => by rw [e] <;> rfl) (fun cdv A outer s H vs Q E hr ⟨f, g, v, u, ev, hf, hg, hQ⟩ => ⟨_, PSs.nox (pss_cons (ps_expr (pe_hc h_require_doc (hr.mono (by omega)) rfl (pa_cons (pv 1) pa_nil))) (pss_one (ps_ret (pe_hk h_Doc (hr.mono (by omega)) rfl (pa_cons (pe_tup (pa_cons pe_str (pa_cons (fld K (pv 0)) (pa_cons (fld K (pv 1)) pa_nil)))) pa_nil))))), ?_⟩)
  subst ev
  refine ⟨_, rfl, g, u, rfl, hg, ?_⟩
  obtain ⟨a, dx, x, rfl, ha, hx⟩ := hf
  obtain ⟨b, dy, y, rfl, hb, hy⟩ := hg
  refine ⟨_, rfl, a, _, dx, _, x, rfl, ha, D.c, D.sh, rfl, _, rfl, b, _, dy, _, y, rfl, hb, D.c, D.sh, rfl, le_line (by simp), fun p hp => ?_⟩
  have s1 := Same.upd (o := .tup [.str "choice", x, y]) hp
  exact mk_doc (f := .cho f g) ⟨p, x, y, rfl, sqT_of upd_same, hx.same s1, hy.same s1⟩ fun r H' s2 h => hQ r H' (s1.trans s2) h
theorem bn_or (D : DocTx K mg) : Binds K (fdOf K (He.ma K (DC K) "__or__")) ["self", "other"] [] := D.d_or.bindsN fun _ _ _ _ _ _ us hl => match us, hl with | [_, _], _ => rfl
theorem sc_nest : FnScope ["self", "steps"] ["self", "steps"] (defScope (mem 20 9)) := mkScope
def spNest (K : PySem.W.Frag) : Sp := fun vs H Q _ => ∃ f v k, vs = [v, .int k] ∧ DocAt K H f v ∧ 0 ≤ k ∧ k ≤ 40 ∧ ∀ r H', Same H H' → DocAt K H' (.nes k f) r → Q r H'
theorem hm_nest (D : DocTx K mg) (h_is_integer : Has P w K mg base 1 "is_integer" fI ["thing", "least", "most"] spIsInteger) (gm : ∃ t, mg "MOST_STEPS" = some (.int 40 t)) : HasM P w K mg base 3 (DC K) "nested" (He.ma K (DC K) "nested") ["self", "steps"] (spNest K) := by
  obtain ⟨_, g40⟩ := gm
  have h_Doc := has_Doc (P := P) (w := w) (base := base) D
  refine ⟨?_, D.c, D.m_nested, D.d_nested.bindsN fun _ _ _ _ _ _ us hl => match us, hl with | [_, _], _ => rfl⟩
  refine D.d_nested.ok sc_nest (fun vs H Q E ⟨_, _, _, e, _⟩ => by rw [e] <;> rfl) (fun cdv A outer s H vs Q E hr ⟨f, v, k, ev, hf, h1, h2, hQ⟩ => ⟨_, PSs.nox (pss_cons (ps_if (pt_not (pt_val (pe_hc h_is_integer (hr.mono (by omega)) rfl (pa_cons (pv 1) (pa_cons pe_int (pa_cons (pe_glob (v := .int 40) rfl g40 ⟨_, rfl⟩) pa_nil)))))) (pss_one ps_never) pss_nil) (pss_one (ps_ret (pe_hk h_Doc (hr.mono (by omega)) rfl (pa_cons (pe_tup (pa_cons pe_str (pa_cons (pv 1) (pa_cons (fld K (pv 0)) pa_nil)))) pa_nil))))), ?_⟩)
  subst ev
  refine ⟨_, rfl, k, 0, 40, rfl, h1, h2, _, rfl, ?_⟩
  refine ifF rfl ?_
  obtain ⟨a, dx, x, rfl, ha, hx⟩ := hf
  refine ⟨_, rfl, _, rfl, a, _, dx, _, x, rfl, ha, D.c, D.sh, rfl, le_line (by simp), fun p hp => ?_⟩
  have s1 := Same.upd (o := .tup [.str "nested", .int k, x]) hp
  exact mk_doc (f := .nes k f) ⟨p, x, rfl, sqT_of upd_same, hx.same s1⟩ fun r H' s2 h => hQ r H' (s1.trans s2) h
theorem sc_grp : FnScope ["self"] ["self"] (defScope (mem 20 10)) := mkScope
def sp_grp (K : PySem.W.Frag) : Sp := fun vs H Q _ => ∃ f v, vs = [v] ∧ DocAt K H f v ∧ ∀ r H', Same H H' → DocAt K H' (.grp f) r → Q r H'
theorem hm_grp (D : DocTx K mg) : HasM P w K mg base 3 (DC K) "group" (He.ma K (DC K) "group") ["self"] (sp_grp K) := by
  have h_Doc := has_Doc (P := P) (w := w) (base := base) D
  refine ⟨?_, D.c, D.m_group, D.d_group.bindsN fun _ _ _ _ _ _ us hl => match us, hl with | [_], _ => rfl⟩
  refine D.d_group.ok sc_grp (fun vs H Q E ⟨_, _, e, _⟩ => by rw [e] <;> rfl) (fun cdv A outer s H vs Q E hr ⟨f, v, ev, hf, hQ⟩ => ⟨_, PSs.nox (pss_one (ps_ret (pe_hk h_Doc (hr.mono (by omega)) rfl (pa_cons (pe_tup (pa_cons pe_str (pa_cons (fld K (pv 0)) pa_nil))) pa_nil)))), ?_⟩)
  subst ev
  obtain ⟨a, dx, x, rfl, ha, hx⟩ := hf
  refine ⟨_, rfl, a, _, dx, _, x, rfl, ha, D.c, D.sh, rfl, le_line (by simp), fun p hp => ?_⟩
  have s1 := Same.upd (o := .tup [.str "group", x]) hp
  exact mk_doc (f := .grp f) ⟨p, x, rfl, sqT_of upd_same, hx.same s1⟩ fun r H' s2 h => hQ r H' (s1.trans s2) h
theorem sc_fla : FnScope ["self"] ["self"] (defScope (mem 20 11)) := mkScope
def sp_fla (K : PySem.W.Frag) : Sp := fun vs H Q _ => ∃ f v, vs = [v] ∧ DocAt K H f v ∧ ∀ r H', Same H H' → DocAt K H' (.fla f) r → Q r H'
theorem hm_fla (D : DocTx K mg) : HasM P w K mg base 3 (DC K) "flattened" (He.ma K (DC K) "flattened") ["self"] (sp_fla K) := by
  have h_Doc := has_Doc (P := P) (w := w) (base := base) D
  refine ⟨?_, D.c, D.m_flat, D.d_flat.bindsN fun _ _ _ _ _ _ us hl => match us, hl with | [_], _ => rfl⟩
  refine D.d_flat.ok sc_fla (fun vs H Q E ⟨_, _, e, _⟩ => by rw [e] <;> rfl) (fun cdv A outer s H vs Q E hr ⟨f, v, ev, hf, hQ⟩ => ⟨_, PSs.nox (pss_one (ps_ret (pe_hk h_Doc (hr.mono (by omega)) rfl (pa_cons (pe_tup (pa_cons pe_str (pa_cons (fld K (pv 0)) pa_nil))) pa_nil)))), ?_⟩)
  subst ev
  obtain ⟨a, dx, x, rfl, ha, hx⟩ := hf
  refine ⟨_, rfl, a, _, dx, _, x, rfl, ha, D.c, D.sh, rfl, le_line (by simp), fun p hp => ?_⟩
  have s1 := Same.upd (o := .tup [.str "flattened", x]) hp
  exact mk_doc (f := .fla f) ⟨p, x, rfl, sqT_of upd_same, hx.same s1⟩ fun r H' s2 h => hQ r H' (s1.trans s2) h
theorem sc_text : FnScope ["string"] ["string"] (defScope (top 22)) := mkScope
def spText (K : PySem.W.Frag) : Sp := fun vs H Q _ => ∃ z, vs = [.str z] ∧ txtOk z = true ∧ ∀ r H', Same H H' → DocAt K H' (.txt z) r → Q r H'
theorem has_text (D : DocTx K mg) (T : TopDef K mg "text" (top 22) [.str ""] f) (h_is_string : Has P w K mg base 1 "is_string" fS ["thing"] spIsString) : Has P w K mg base 3 "text" f ["string"] (spText K) := by
  have h_Doc := has_Doc (P := P) (w := w) (base := base) D
  refine mkHas T ?_ ?_
  · refine T.d.ok sc_text (fun vs H Q E ⟨_, e, _⟩ => by rw [e] <;> rfl) (fun cdv A outer s H vs Q E hr ⟨z, ev, hz, hQ⟩ => ⟨_, PSs.nox (pss_cons (ps_if (pt_not (pt_val (pe_hc h_is_string (hr.mono (by omega)) rfl (pa_cons (pv 0) pa_nil)))) (pss_one ps_never) pss_nil) (pss_one (ps_ret (pe_hk h_Doc (hr.mono (by omega)) rfl (pa_cons (pe_tup (pa_cons pe_str (pa_cons (pv 0) pa_nil))) pa_nil))))), ?_⟩)
    subst ev
    refine ⟨_, rfl, z, rfl, txtOk_okS hz, fun H1 s1 => ⟨_, rfl, ?_⟩⟩
    refine ifF rfl ?_
    refine ⟨_, rfl, le_line (by simp), fun p hp => ?_⟩
    have s2 := Same.upd2 (o := .tup [.str "text", .str z]) s1 hp
    exact mk_doc (f := .txt z) ⟨p, rfl, sqT_of upd_same⟩ fun r H' s3 h => hQ r H' (s2.trans s3) h
  · obtain ⟨ds, vd, b⟩ := T.d.binds1 (ps := ["string"]) 1 1 (by simp) rfl fun _ _ _ _ _ _ _ us its h1 h2 => match us, its, h1, h2 with | [_], [_], _, _ => ⟨_, rfl, rfl⟩
    cases vd
    exact b
theorem sc_line : FnScope ["flat"] ["flat"] (defScope (top 23)) := mkScope
def brkOk : Option Str → Bool
  | some z => txtOk z
  | none => true
def spLine (K : PySem.W.Frag) : Sp := fun vs H Q _ => ∃ z, vs = [optV z] ∧ brkOk z = true ∧ ∀ r H', Same H H' → DocAt K H' (.brk z) r → Q r H'
theorem has_line (D : DocTx K mg) (T : TopDef K mg "line" (top 23) [.str " "] f) (h_is_string : Has P w K mg base 1 "is_string" fS ["thing"] spIsString) : Has P w K mg base 3 "line" f ["flat"] (spLine K) := by
  have h_Doc := has_Doc (P := P) (w := w) (base := base) D
  refine mkHas T ?_ ?_
  · refine T.d.ok sc_line (fun vs H Q E ⟨_, e, _⟩ => by rw [e] <;> rfl) (fun cdv A outer s H vs Q E hr ⟨z, ev, hz, hQ⟩ => ⟨_, PSs.nox (pss_cons (ps_if (PW.pt (pw_and (pt_cmpR op_notN (pv 0) pe_non (nomark _)) (pw_and1 (pt_not (pt_val (pe_hc h_is_string (hr.mono (by omega)) rfl (pa_cons (pv 0) pa_nil))))))) (pss_one ps_never) pss_nil) (pss_one (ps_ret (pe_hk h_Doc (hr.mono (by omega)) rfl (pa_cons (pe_tup (pa_cons pe_str (pa_cons (pv 0) pa_nil))) pa_nil))))), ?_⟩)
    subst ev
    cases z with
    | none =>
      refine ⟨_, rfl, rfl, _, rfl, ?_⟩
      refine ifF rfl ?_
      refine ⟨_, rfl, le_line (by simp), fun p hp => ?_⟩
      have s2 := Same.upd (o := .tup [.str "break", .non]) hp
      exact mk_doc (f := .brk none) ⟨p, rfl, sqT_of upd_same⟩ fun r H' s3 h => hQ r H' (s2.trans s3) h
    | some z =>
      refine ⟨_, rfl, rfl, _, rfl, ?_⟩
      refine ifT (by simp [optV]) ?_
      refine ⟨_, rfl, z, rfl, txtOk_okS hz, fun H1 s1 => ⟨_, rfl, ?_⟩⟩
      refine ifF rfl ?_
      refine ⟨_, rfl, le_line (by simp), fun p hp => ?_⟩
      have s2 := Same.upd2 (o := .tup [.str "break", .str z]) s1 hp
      exact mk_doc (f := .brk (some z)) ⟨p, rfl, sqT_of upd_same⟩ fun r H' s3 h => hQ r H' (s2.trans s3) h
  · obtain ⟨ds, vd, b⟩ := T.d.binds1 (ps := ["flat"]) 1 1 (by simp) rfl fun _ _ _ _ _ _ _ us its h1 h2 => match us, its, h1, h2 with | [_], [_], _, _ => ⟨_, rfl, rfl⟩
    cases vd
    exact b
theorem sc_hole : FnScope ["name"] ["name"] (defScope (top 24)) := mkScope
def spHole (K : PySem.W.Frag) : Sp := fun vs H Q _ => ∃ z, vs = [.str z] ∧ nameOk z = true ∧ ∀ r H', Same H H' → DocAt K H' (.hol z) r → Q r H'
theorem has_hole (D : DocTx K mg) (T : TopDef K mg "hole" (top 24) [] f) (h_is_name : Has P w K mg base 1 "is_name" fS ["thing"] (spIsName K)) : Has P w K mg base 3 "hole" f ["name"] (spHole K) := by
  have h_Doc := has_Doc (P := P) (w := w) (base := base) D
  refine mkHas T ?_ (T.d.bindsN fun _ _ _ _ _ _ us hl => match us, hl with | [_], _ => rfl)
  refine T.d.ok sc_hole (fun vs H Q E ⟨_, e, _⟩ => by rw [e] <;> rfl) (fun cdv A outer s H vs Q E hr ⟨z, ev, hz, hQ⟩ => ⟨_, PSs.nox (pss_cons (ps_if (pt_not (pt_val (pe_hc h_is_name (hr.mono (by omega)) rfl (pa_cons (pv 0) pa_nil)))) (pss_one ps_never) pss_nil) (pss_one (ps_ret (pe_hk h_Doc (hr.mono (by omega)) rfl (pa_cons (pe_tup (pa_cons pe_str (pa_cons (pv 0) pa_nil))) pa_nil))))), ?_⟩)
  subst ev
  refine ⟨_, rfl, .inl ⟨z, rfl, by have := (nameOk_iff.mp hz).2.1; omega, fun H1 s1 => ⟨_, rfl, ?_⟩⟩⟩
  rw [hz]
  refine ifF rfl ?_
  refine ⟨_, rfl, le_line (by simp), fun p hp => ?_⟩
  have s2 := Same.upd2 (o := .tup [.str "hole", .str z]) s1 hp
  exact mk_doc (f := .hol z) ⟨p, rfl, sqT_of upd_same⟩ fun r H' s3 h => hQ r H' (s2.trans s3) h
end
end Q41
set_option maxRecDepth 100000
set_option maxHeartbeats 4000000
/-! filled. -/
namespace Q41
open PySem PySem.Spec PyProof.Rows L2
/-- documents by name -/
def DocsAt (K : PySem.W.Frag) (H : Hp) : List (Str × V) → Kp → Prop
  | [], [] => True
  | (n, v) :: ws, (m, f) :: gs => n = m ∧ DocAt K H f v ∧ DocsAt K H ws gs
  | _, _ => False
theorem DocsAt.same {K : PySem.W.Frag} {H H' : Hp} (e : Same H H') : ∀ {ws : List (Str × V)} {gs : Kp}, DocsAt K H ws gs → DocsAt K H' ws gs
  | [], [], _ => trivial
  | (_, _) :: _, (_, _) :: _, ⟨h1, h2, h3⟩ => ⟨h1, h2.same e, DocsAt.same e h3⟩
theorem DocsAt.keys {K : PySem.W.Frag} {H : Hp} : ∀ {ws : List (Str × V)} {gs : Kp}, DocsAt K H ws gs → ws.map (·.1) = keys gs
  | [], [], _ => rfl
  | (_, _) :: _, (_, _) :: _, ⟨h1, _, h3⟩ => by
    simp only [List.map_cons, keys] at *
    rw [h1, DocsAt.keys h3]
    rfl
theorem DocsAt.get {K : PySem.W.Frag} {H : Hp} {n : Str} : ∀ {ws : List (Str × V)} {gs : Kp} {f : Fm}, DocsAt K H ws gs → gs.lookup n = some f → ∃ v, valV (asKeysV ws) (.inr n) = some v ∧ DocAt K H f v
  | [], [], f, _, h => by simp at h
  | (a, v) :: ws, (m, g) :: gs, f, ⟨h1, h2, h3⟩, h => by
    subst h1
    rw [List.lookup_cons] at h
    by_cases e : n = a
    · subst e
      simp at h
      subst h
      exact ⟨v, valV_pos rfl, h2⟩
    · have e2 : (n == a) = false := by simpa using e
      rw [e2] at h
      obtain ⟨u, h4, h5⟩ := DocsAt.get h3 h
      exact ⟨u, by rw [← h4]; exact valV_neg (fun q => e (by injection q with q; exact q.symm)), h5⟩
theorem asKeysV_keys (ws : List (Str × V)) : (asKeysV ws).map (·.1) = (ws.map (·.1)).map Sum.inr := by simp [asKeysV]
section
variable {P : Program} {w : World} {K : PySem.W.Frag} {mg : Str → Option Value} {base : Heap} {f fR fF : Addr}
theorem sc_filled : FnScope ["the_doc", "fillings", "forms", "name"] ["the_doc", "fillings"] (defScope (top 25)) := mkScope
def spFilled (K : PySem.W.Frag) (D : Nat) : SpKw := fun v ws H Q _ => ∃ f gs, DocAt K H f v ∧ DocsAt K H ws gs ∧ (keys gs).Nodup ∧ gs.length < 64 ∧ (∀ n ∈ keys gs, nameOk n = true) ∧ f.depth < D ∧ ∀ r H', Same H H' → DocAt K H' (f.fill fun n => gs.lookup n) r → Q r H'
theorem kw_filled (D : DocTx K mg) (T : TopDef K mg "filled" (top 25) [] f) (h_require_doc : Has P w K mg base 1 "require_doc" fR ["thing"] (spReq K)) (g_sorted : mg "sorted" = none) (dp : Nat) (h_filled_form : Has P w K mg base dp "filled_form" fF ["form", "fillings"] (spFill K dp)) :
    FnKw P w K mg base (L2.CX P w) (dp + 4) f (spFilled K dp) := by
  have h_Doc := has_Doc (P := P) (w := w) (base := base) D
  have p_form := hp_form (P := P) (w := w) (base := base) D
  obtain ⟨oc, od, dV, kV, doc, pm, an, cdv, ct, osl, efd, lk, hcd, hdv, _⟩ := T.d.ex
  have hdV : dV = .none := by
    rcases hdv with ⟨_, h⟩ | ⟨h, _⟩
    · exact h
    · exact absurd rfl h
  subst hdV
  rw [efd] at lk
  have F := fn_kw (CX := L2.CX P w) (P := P) (w := w) (K := K) (mg := mg) (base := base) (k := dp + 3) (sp := fun vs H Q E => ∃ f v d ws gs, vs = [v, .ref d] ∧ DocAt K H f v ∧ H d = some (.dK (asKeysV ws)) ∧ DocsAt K H ws gs ∧ (keys gs).Nodup ∧ gs.length < 64 ∧ f.depth < dp ∧ ∀ r H', Same H H' → DocAt K H' (f.fill fun n => gs.lookup n) r → Q r H') lk hcd sc_filled StX.cxUp ?_
  · intro A outer s H u kw v ws Q E hr e0 r r2 ⟨f, gs, h1, h2, h3, h4, h5, h6, h7⟩
    have hk := h2.keys
    have hl : ws.length = gs.length := by
      have := congrArg List.length hk
      simpa [keys] using this
    refine F A outer s H u kw v ws Q E hr e0 r r2 ⟨fun p hp e => ?_, by omega, by rw [hk]; exact h3, fun d hd => ?_⟩
    · have := h5 p.1 (by rw [← hk]; exact List.mem_map.mpr ⟨p, hp, rfl⟩)
      rw [e] at this
      exact absurd this (by decide +kernel)
    · have s1 := Same.upd (o := .dK (asKeysV ws)) hd
      exact ⟨f, v, d, ws, gs, rfl, h1.same s1, upd_same, h2.same s1, h3, h4, h6, fun r H' s2 => h7 r H' (s1.trans s2)⟩
  · intro A outer s H vs Q E hr ⟨f, v, d, ws, gs, ev, hf, hd, hg, hn, hl, hD, hQ⟩
    refine ⟨_, PSs.nox (pss_cons (ps_expr (pe_hc h_require_doc (hr.mono (by omega)) rfl (pa_cons (pv 0) pa_nil))) (pss_cons (ps_set (i := 2) sc_filled.nd rfl (.inl rfl) pe_dnewK) (pss_cons (ps_for PassesOwn.never rfl (pil K (pe_callB (call_sortedD rfl) rfl g_sorted Boot.«sorted» (pa_cons (pv 1) pa_nil))) (pg_name sc_filled.nd (i := 3) rfl (.inl rfl)) (pss_cons (ps_expr (pe_hc h_require_doc (hr.mono (by omega)) rfl (pa_cons (pe_dget (hu_of hr) (pv 1) (pv 3) (by intro _ _; rfl)) pa_nil))) (pss_one (ps_dput (hu_of hr) (pv 2) (pv 3) (pe_hp p_form (hr.mono (by omega)) (pe_dget (hu_of hr) (pv 1) (pv 3) (by intro _ _; rfl))) rfl)))) (pss_one (ps_ret (pe_hk h_Doc (hr.mono (by omega)) rfl (pa_cons (pe_hc h_filled_form (hr.mono (by omega)) rfl (pa_cons (pe_hp p_form (hr.mono (by omega)) (pv 0)) (pa_cons (pv 2) pa_nil))) pa_nil))))))), ?_⟩
    subst ev
    refine ⟨_, rfl, f, v, rfl, hf, ?_⟩
    refine fun pF hpF => ?_
    have s1 : Same H (upd H pF (.dK [])) := Same.upd hpF
    have hks : ∃ ks : List Str, ks = ws.map (·.1) ∧ ks.Nodup ∧ ks.length < 64 := ⟨_, rfl, by rw [hg.keys]; exact hn, by rw [hg.keys]; simpa [keys] using hl⟩
    obtain ⟨ks, ek, nk, lk64⟩ := hks
    refine ⟨_, rfl, d, _, ks, rfl, .inl (s1 _ _ hd), by rw [asKeysV_keys, ek], lk64, fun ys l hp hs hlF => ?_⟩
    have hmem : ∀ n, n ∈ ys ↔ n ∈ keys gs := fun n => by rw [hp.mem_iff, ek, hg.keys]
    have hlp : l ≠ pF := fun z => by
      rw [z, upd_same] at hlF
      cases hlF
    have hH0 : H l = none := s1.free hlF
    refine ⟨l, rfl, ⟨_, sqL_of upd_same⟩, ?_⟩
    refine for_list (xs := ys.map V.str) (fun i σ H' => ∃ nm kvs, σ = [some v, some (.ref d), some (.ref pF), nm] ∧ Same H H' ∧ H' l = some (.lst (ys.map V.str)) ∧ H' pF = some (.dK kvs) ∧ kvs.length ≤ i ∧
      ∀ n, match valV kvs (.inr n) with | some x => n ∈ ys.take i ∧ ∃ f, gs.lookup n = some f ∧ FmAt K H' f x | none => n ∉ ys.take i)
      ⟨none, [], rfl, s1.over hH0, upd_same, by rw [upd_ne (Ne.symm hlp)]; exact upd_same, Nat.zero_le _, fun n => by simp [valV_nil]⟩ (fun i σ H' _ ⟨_, _, _, _, h, _⟩ => sqL_of h) (fun i x σ H' hx ⟨nm, kvs, eσ, s2, e1, e2, hlen, hv⟩ => ?_) fun σ H' ⟨nm, kvs, eσ, s2, e1, e2, hlen, hv⟩ => ?_
    · subst eσ
      rw [List.getElem?_map, Option.map_eq_some_iff] at hx
      obtain ⟨n, hn1, rfl⟩ := hx
      have hi : i < ys.length := (List.getElem?_eq_some_iff.mp hn1).1
      have hyl : ys.length < 64 := by rw [hp.length_eq]; exact lk64
      obtain ⟨g, hg1⟩ := lookup_some.mpr ((hmem n).mp (List.mem_of_getElem? hn1))
      obtain ⟨u, hu1, hu2⟩ := hg.get hg1
      have hu3 := hu2.same s2
      refine ⟨_, rfl, _, rfl, d, u, rfl, .inl ⟨_, .inr n, .inl (s2 _ _ hd), rfl, hu1.symm⟩, g, u, rfl, hu3, ?_⟩
      refine ⟨_, rfl, _, rfl, d, u, rfl, .inl ⟨_, .inr n, .inl (s2 _ _ hd), rfl, hu1.symm⟩, ?_⟩
      obtain ⟨a, dx, x, rfl, ha, hx⟩ := hu3
      refine ⟨a, dx, _, rfl, ha, a, dx, x, rfl, ha, ?_⟩
      refine ⟨_, rfl, _, rfl, pF, _, rfl, .inl ⟨kvs, .inr n, e2, rfl, by rw [sizeLine_eq]; omega, rfl⟩, ?_⟩
      have ts : ∀ a xs, SqT K H' a xs → SqT K (upd H' pF (.dK (putK kvs (.inr n) x))) a xs := sqT_dK e2
      refine ⟨_, _, rfl, s2.over hpF, by rw [upd_ne hlp]; exact e1, upd_same, Nat.le_trans (length_putK _ _ _) (by omega), fun m => ?_⟩
      rw [valV_put]
      have htk : ys.take (i + 1) = ys.take i ++ [n] := by
        rw [List.take_add_one, hn1]
        rfl
      by_cases hm : m = n
      · subst hm
        rw [if_pos rfl]
        exact ⟨by rw [htk]; simp, g, hg1, hx.mono ts⟩
      · rw [if_neg (fun e => hm (by injection e))]
        have := hv m
        split at this
        · obtain ⟨h1, f2, h2, h3⟩ := this
          exact ⟨by rw [htk]; simp [h1], f2, h2, h3.mono ts⟩
        · rw [htk]
          simp [this, hm]
    · subst eσ
      rw [List.length_map, List.take_length] at hv
      obtain ⟨a, dx, x, rfl, ha, hx⟩ := hf
      refine ⟨_, rfl, a, dx, _, rfl, s2 _ _ ha, a, dx, x, rfl, s2 _ _ ha, _, rfl, f, x, pF, kvs, fun n => gs.lookup n, rfl, hx.same s2, .inl e2, fun n => ?_, hD, fun v' H2 s3 hm => ?_⟩
      · have := hv n
        split at this
        · rename_i x0 ee
          obtain ⟨_, f2, h2, h3⟩ := this
          first
            | (rw [ee]; exact ⟨f2, h2, h3⟩)
            | exact ⟨f2, h2, h3⟩
        · rename_i ee
          first
            | (rw [ee]; exact lookup_none (fun h => this ((hmem n).mpr h)))
            | exact lookup_none (fun h => this ((hmem n).mpr h))
      · exact mk_doc hm fun r H3 s4 h => hQ r H3 ((s2.trans s3).trans s4) h
end
end Q41
set_option maxRecDepth 100000
set_option maxHeartbeats 4000000
/-! Own rules: o[i] by an own __getitem__; == by an own __eq__; a dict comprehension kept under a name. -/
namespace Q41
open PySem PySem.Spec PyProof.Rows L2
/-- the class at C has the name as a plain def -/
structure GetOf (K : PySem.W.Frag) (C f : Addr) (m : Str) : Prop where
  at_ : PySem.W.findIn K (.ref C) m = some (some (.ref f))
  fi : PySem.W.fnIn K f = true
  fn : PySem.W.isFn K (.ref f) = true
def tGetO (C : Addr) (sp : Sp) (E : XK) (ta tb : TE) : TE := fun σ H Q => ta σ H fun x H1 => tb σ H1 fun y H2 => ∃ a dx fs, x = .ref a ∧ H2 a = some (.ins C dx fs) ∧ sp [.ref a, y] H2 Q E
theorem pe_getO {X : Cx} {k : Nat} {C f : Addr} {ps : List Str} {sp : Sp} {E : XK} {a b : Expr} {ta tb : TE} {pos : Pos} (g : GetOf X.K C f "__getitem__") (F : FnOk X.prog X.w X.K X.mg X.base (L2.CX X.prog X.w) k f (fdOf X.K f) ps sp) (hr : Room (k + 1) X.A) (bi : Binds X.K (fdOf X.K f) ps [])
    (hx : Passes (L2.CX X.prog X.w) X E) (ha : PE X a ta) (hb : PE X b tb) (hsl : ∀ o i, subscripted b true (.ref o) i = runValue (.builtin "lifetime.subscript" ⟨[.ref o, i], []⟩) := by intro _ _; with_unfolding_all rfl) : PE X (.Subscript a b pos) (tGetO C sp E ta tb) := by
  refine ⟨fun pins s σ H Q I h => ?_⟩
  refine Subscript_ (binT ha hb I h fun v u s2 x y H2 I2 rx ry q => ?_)
  obtain ⟨o, dx, fs, rfl, ea, q⟩ := q
  obtain rfl : v = Value.ref o := rx
  obtain ⟨mA, J, _⟩ := ins_get I2.hok ea
  obtain ⟨od, J, _⟩ := J.look
  obtain ⟨m, hF⟩ := I2.fr
  refine PySem.W.sub_K hF I2.ok.mod.kin J g.at_ g.fi g.fn ?_ (hsl o u)
  have r2 : Vals [V.ref o, y] [Value.ref o, u] := .cons rfl (.cons ry .nil)
  have hl : ([Value.ref o, u] : List Value).length = ps.length := by
    rw [← r2.length]
    exact F.len _ _ _ _ q
  refine wpAny_call (codeAny_mono (F.run X.A.in1 X.stack s2 H2 ⟨[.ref o, u], []⟩ [.ref o, u] _ Q E hr.in1 I2.env0.in1 (by simpa using bi s2 [.ref o, u] I2.kIn (by simpa using hl)) r2 q) fun r s' hq => ?_)
  cases r with
  | error e => exact hx pins σ H2 s2 e s' I2 hq
  | ok fl =>
    cases fl with
    | ret z => exact I2.after hq
    | next => exact False.elim hq
    | brk => exact False.elim hq
    | cont => exact False.elim hq
def rEqO (C : Addr) (sp : Sp) : R2 := fun x y H Q => ∃ a b dx dy fs gs, x = .ref a ∧ y = .ref b ∧ H a = some (.ins C dx fs) ∧ H b = some (.ins C dy gs) ∧ sp [.ref a, .ref b] H Q E0
theorem op_eqO {X : Cx} {k : Nat} {C f : Addr} {ps : List Str} {sp : Sp} (g : GetOf X.K C f "__eq__") (hn : PySem.W.notFirst X.K C (.ref C) = true) (F : FnOk X.prog X.w X.K X.mg X.base (L2.CX X.prog X.w) k f (fdOf X.K f) ps sp) (hr : Room k X.A) (bi : Binds X.K (fdOf X.K f) ps []) :
    OpR X (compareOp .Eq) (rEqO C sp) := by
  intro pins s σ H x y v u Q I rx ry h
  obtain ⟨a, b, dx, dy, fs, gs, rfl, rfl, ha, hb, q⟩ := h
  obtain rfl : v = Value.ref a := rx
  obtain rfl : u = Value.ref b := ry
  obtain ⟨mA, J, _⟩ := ins_get I.hok ha
  obtain ⟨od, J, _⟩ := J.look
  obtain ⟨mB, J', _⟩ := ins_get I.hok hb
  obtain ⟨od', J', _⟩ := J'.look
  obtain ⟨m, hF⟩ := I.fr
  show wpAny _ _ (richCompare .Eq (.ref a) (.ref b)) _ _ _
  refine PySem.W.cmp_K (op := .Eq) (tb := .ref C) hr.units0 hF I.ok.mod.kin J J'.type hn g.at_ g.fn ?_
  have r2 : Vals [V.ref a, V.ref b] [Value.ref a, Value.ref b] := .cons rfl (.cons rfl .nil)
  refine wpAny_mono (run_fn F hr bi .nil passL I r2 (by simpa using q)) (fun w s' hw => ?_) fun _ _ e => e
  obtain ⟨z, H', I', rz, qz⟩ := hw
  exact SlX.cmpback rz ⟨z, H', I', rz, qz⟩
section
variable {X : Cx}
theorem ps_setDc {i : Nat} {y : Str} {py : Pos} {kx vx tg iter : Expr} {ifs : List Expr} {scope : Scope} {own : List (Str × Nat)} {pos spos : Pos} {wi : TI} {g : TG} {tt : TT} {tk tv : TE} (hc : X.calm = true) (hN : X.N.Nodup) (hy : X.N[i]? = some y) (hyl : X.env.scope.names.lookup y = some .local)
    (hsw : swapsWith (.DictComp kx vx [⟨tg, iter, ifs, 0⟩] scope pos) (some (.Name y py)) spos.line X.env = pure true) (hi : PI X tg iter wi) (ok : BlkOk X.N X.env.scope scope own)
    (hg : ∀ (s : Shared) (H : Hp) (C : Addr) (cl : List (Str × Addr)) (fp : List Addr), PG (X.blk s H scope (compEnvC scope cl C X.env) fp) tg g)
    (ht : ∀ (s : Shared) (H : Hp) (C : Addr) (cl : List (Str × Addr)) (fp : List Addr), PTs (X.blk s H scope (compEnvC scope cl C X.env) fp) ifs tt)
    (hk : ∀ (s : Shared) (H : Hp) (C : Addr) (cl : List (Str × Addr)) (fp : List Addr), PE (X.blk s H scope (compEnvC scope cl C X.env) fp) kx tk)
    (he : ∀ (s : Shared) (H : Hp) (C : Addr) (cl : List (Str × Addr)) (fp : List Addr), PE (X.blk s H scope (compEnvC scope cl C X.env) fp) vx tv)
    (hs : ∀ x, foldedSetIterable iter X.env x = pure x := by intro _; rfl) :
    PS X (.Assign [.Name y py] (.DictComp kx vx [⟨tg, iter, ifs, 0⟩] scope pos) spos) (tAsg (tDc wi g tt tk tv (own.map (·.2))) (gName i)) := by
  refine ⟨fun pins s σ H D I h => ?_⟩
  rw [exec_Assign_Name_used _ _ _ _ hsw]
  refine wpAny_bind (wpAny_standAt (wpAny_bind ?_))
  show wpAny _ X.A (do let _ ← comprehension (.DictComp kx vx [⟨tg, iter, ifs, 0⟩] scope pos) scope X.env (firstIterPos [⟨tg, iter, ifs, 0⟩] pos) (do let d ← alloc { cls := .type "dict", data := .dict #[] }; pure (.ref d)) false (eval iter X.env) (some (assign (.Name y py) X.env))) _ _ s
  have h : tDc wi g tt tk tv (own.map (·.2)) σ H (fun x H1 => gName i x σ H1 D.nx) := h
  refine wpAny_bind (thn (dc_core (Qf := fun _ s' => SP X pins D .next s') hc hN I hi ok hg ht hk he hs h fun L C s' m H' I' q hn f => ?_) fun _ s' hq => wpAny_pure (wpAny_pure hq))
  show wpAny _ _ (assign (.Name y py) X.env (.ref L)) _ _ _
  refine wpAny_assign_Name (store_ok2 (v := V.ref L) I' hN hy (.inl hyl) rfl (fun s2 I2 ⟨a, sb, ha⟩ => ?_) (.inr hyl))
  obtain ⟨f0, f1, f2, f3, f4, f5⟩ := f
  have ne : C ≠ a := by
    rcases ha with z | z
    · rw [z]
      exact f1
    · exact fun e => f4 y a z e.symm
  exact ⟨m, hn.sameBut sb ne, fun h3 sb3 => ⟨_, H', I2.turned (t' := s2.toks) (fun b o hb e => (sb3.2 b hb).trans e) f0 f1 f3 f4 f5, q⟩⟩
theorem sw_trueD {kx vx : Expr} {gs : List Comprehension} {scope : Scope} {pos py : Pos} {y : Str} {l : Nat} {env : Env} (hk : env.scope.kind = .function) (hy : env.scope.names.lookup y = some .local) (hl : (py.line == pos.line) = true)
    (ha : (scope.names.any fun (n, k) => n == y && (k == .local || k == .cell)) = false) : swapsWith (.DictComp kx vx gs scope pos) (some (.Name y py)) l env = pure true := by
  have ky : env.kindOf y = some .local := hy
  have hb : env.blockKind = .function := by unfold Env.blockKind; rw [hk] <;> rfl
  unfold swapsWith
  simp only [hb, ky, ha, Expr.pos, hl]
  rfl
end
end Q41
set_option maxRecDepth 100000
set_option maxHeartbeats 4000000
/-! Desk, 1: made, filled, read. -/
namespace Q41
open PySem PySem.Spec PyProof.Rows L2
/-- what is known of the class Desk -/
structure DeskTx (K : PySem.W.Frag) (mg : Str → Option Value) : Prop where
  c : Cls K (KC K)
  n_kept : NoAttr K (KC K) "kept"
  n_wide : NoAttr K (KC K) "wide"
  n_past : NoAttr K (KC K) "past"
  g : mg "Desk" = some (.ref (KC K))
  made : Mk K (KC K) (He.ma K (KC K) "__init__")
  d_init : DefAt K "__init__" "Desk.__init__" (mem 27 0) [] (He.ma K (KC K) "__init__")
  p_names : PropOf K (KC K) "names" (He.ma K (KC K) "names") (pA K (KC K) "names")
  d_names : DefAt K "names" "Desk.names" (mem 27 3) [] (pA K (KC K) "names")
  m_remember : Meth K (KC K) "remember" (He.ma K (KC K) "remember")
  d_remember : DefAt K "remember" "Desk.remember" (mem 27 4) [] (He.ma K (KC K) "remember")
  m_put : Meth K (KC K) "put" (He.ma K (KC K) "put")
  d_put : DefAt K "put" "Desk.put" (mem 27 5) [] (He.ma K (KC K) "put")
  o_get : GetOf K (KC K) (He.ma K (KC K) "__getitem__") "__getitem__"
  d_get : DefAt K "__getitem__" "Desk.__getitem__" (mem 27 11) [] (He.ma K (KC K) "__getitem__")
  m_require : Meth K (KC K) "require" (He.ma K (KC K) "require")
  d_require : DefAt K "require" "Desk.require" (mem 27 14) [] (He.ma K (KC K) "require")
  m_used : Meth K (KC K) "used" (He.ma K (KC K) "used")
  d_used : DefAt K "used" "Desk.used" (mem 27 15) [] (He.ma K (KC K) "used")
  m_led : Meth K (KC K) "led" (He.ma K (KC K) "led")
  d_led : DefAt K "led" "Desk.led" (mem 27 16) [] (He.ma K (KC K) "led")
  m_whole : Meth K (KC K) "whole" (He.ma K (KC K) "whole")
  d_whole : DefAt K "whole" "Desk.whole" (mem 27 17) [] (He.ma K (KC K) "whole")
  m_filled_in : Meth K (KC K) "filled_in" (He.ma K (KC K) "filled_in")
  d_filled_in : DefAt K "filled_in" "Desk.filled_in" (mem 27 18) [] (He.ma K (KC K) "filled_in")
  m_order : Meth K (KC K) "order" (He.ma K (KC K) "order")
  d_order : DefAt K "order" "Desk.order" (mem 27 19) [] (He.ma K (KC K) "order")
/-- kept forms as they are wanted -/
structure Good (M : Kp) : Prop where
  nd : (keys M).Nodup
  len : M.length ≤ 30
  name : ∀ p ∈ M, nameOk p.1 = true
  ok : ∀ p ∈ M, p.2.ok = true
  dp : ∀ p ∈ M, p.2.depth ≤ 3
theorem mem_of_get {M : Kp} {n : Str} {f : Fm} (h : M.lookup n = some f) : (n, f) ∈ M := PySem.mem_of_lookup h
theorem Good.size {M : Kp} (g : Good M) {n : Str} {f : Fm} (h : M.lookup n = some f) : f.size ≤ 15 := by
  have h1 : f.depth ≤ 3 := g.dp _ (mem_of_get h)
  have h2 := f.size_depth
  have h3 : 2 ^ (f.depth + 1) ≤ 2 ^ 4 := Nat.pow_le_pow_right (by decide) (by omega)
  omega
theorem Good.names {M : Kp} (g : Good M) : ∀ n ∈ keys M, nameOk n = true := fun n h => by
  obtain ⟨p, hp, rfl⟩ := List.mem_map.mp h
  exact g.name p hp
theorem keys_len {M : Kp} : (keys M).length = M.length := by simp [keys]
/-- a desk that keeps M: its list of what was -/
structure DeskAt (K : PySem.W.Frag) (H : Hp) (M : Kp) (c : Nat) (a pl : Addr) : Prop where
  good : Good M
  at_ : ∃ dx dk ws xs, H a = some (.ins (KC K) dx [("kept", .ref dk), ("wide", .int 80), ("past", .ref pl)]) ∧ Rd H dk (.dK (asKeysV ws)) ∧ DocsAt K H ws M ∧ H pl = some (.lst xs) ∧ xs.length = c
theorem DeskAt.same {K : PySem.W.Frag} {H H' : Hp} (e : Same H H') {M : Kp} {c : Nat} {a pl : Addr} (h : DeskAt K H M c a pl) : DeskAt K H' M c a pl := by
  obtain ⟨dx, dk, ws, xs, h1, h2, h3, h4, h5⟩ := h.at_
  exact ⟨h.good, dx, dk, ws, xs, e _ _ h1, Same.rd e h2, h3.same e, e _ _ h4, h5⟩
/-- .. and no one goes through its dict -/
structure DeskO (K : PySem.W.Frag) (H : Hp) (M : Kp) (c : Nat) (a pl : Addr) : Prop where
  good : Good M
  at_ : ∃ dx dk ws xs, H a = some (.ins (KC K) dx [("kept", .ref dk), ("wide", .int 80), ("past", .ref pl)]) ∧ H dk = some (.dK (asKeysV ws)) ∧ DocsAt K H ws M ∧ H pl = some (.lst xs) ∧ xs.length = c
/-- the desk's dict was not there in H0 -/
def DkNew (K : PySem.W.Frag) (H0 H : Hp) (a : Addr) : Prop := ∃ (dx : Addr) (fs : List (Str × V)) (dk : Addr), H a = some (.ins (KC K) dx fs) ∧ fs.lookup ("kept" : Str) = some (.ref dk) ∧ H0 dk = none
theorem DkNew.same {K : PySem.W.Frag} {H0 H H' : Hp} {a : Addr} (e : Same H H') (h : DkNew K H0 H a) : DkNew K H0 H' a := by
  obtain ⟨dx, fs, dk, h1, h2, h3⟩ := h
  exact ⟨dx, fs, dk, e _ _ h1, h2, h3⟩
theorem DkNew.old {K : PySem.W.Frag} {H0 H1 H : Hp} {a : Addr} (e : Same H0 H1) (h : DkNew K H1 H a) : DkNew K H0 H a := by
  obtain ⟨dx, fs, dk, h1, h2, h3⟩ := h
  exact ⟨dx, fs, dk, h1, h2, e.free h3⟩
theorem DeskO.desk {K : PySem.W.Frag} {H : Hp} {M : Kp} {c : Nat} {a pl : Addr} (h : DeskO K H M c a pl) : DeskAt K H M c a pl := by
  obtain ⟨dx, dk, ws, xs, h1, h2, h3, h4, h5⟩ := h.at_
  exact ⟨h.good, dx, dk, ws, xs, h1, .inl h2, h3, h4, h5⟩
theorem DeskO.same {K : PySem.W.Frag} {H H' : Hp} (e : Same H H') {M : Kp} {c : Nat} {a pl : Addr} (h : DeskO K H M c a pl) : DeskO K H' M c a pl := by
  obtain ⟨dx, dk, ws, xs, h1, h2, h3, h4, h5⟩ := h.at_
  exact ⟨h.good, dx, dk, ws, xs, e _ _ h1, e _ _ h2, h3.same e, e _ _ h4, h5⟩
section
variable {P : Program} {w : World} {K : PySem.W.Frag} {mg : Str → Option Value} {base : Heap} {f fR fN fA : Addr}
theorem putF_len1 {o : V} : (putF "kept" o []).length < 1000 := (by decide : 1 < 1000)
theorem putF_len2 {o p : V} : (putF "wide" p (putF "kept" o [])).length < 1000 := (by decide : 2 < 1000)
theorem sc_kinit : FnScope ["self"] ["self"] (defScope (mem 27 0)) := mkScope
def spKInit (K : PySem.W.Frag) : Sp := fun vs H Q _ => ∃ x dx, vs = [.ref x] ∧ H x = some (.ins (KC K) dx []) ∧ ∀ H' dk pl, (∀ b o, b ≠ x → H b = some o → H' b = some o) → H dk = none → H pl = none → H' x = some (.ins (KC K) dx [("kept", .ref dk), ("wide", .int 80), ("past", .ref pl)]) → H' dk = some (.dK []) → H' pl = some (.lst []) → Q .non H'
theorem has_Desk (D : DeskTx K mg) : HasC P w K mg base 1 "Desk" (KC K) (He.ma K (KC K) "__init__") ["self"] (spKInit K) := by
  refine ⟨?_, D.g, D.made, D.d_init.bindsN fun _ _ _ _ _ _ us hl => match us, hl with | [_], _ => rfl⟩
  refine D.d_init.ok sc_kinit (fun vs H Q E ⟨_, _, e, _⟩ => by rw [e] <;> rfl) (fun cdv A outer s H vs Q E hr ⟨x, dx, ev, hx, hQ⟩ => ⟨_, PSs.nox (pss_cons (ps_fld (pv 0) pe_dnewK rfl) (pss_cons (ps_fld (pv 0) pe_int rfl) (pss_one (ps_fld (pv 0) (pe_lst pa_nil) rfl)))), ?_⟩)
  subst ev
  refine fun dk hdk => ?_
  have n1 : x ≠ dk := fun e => by rw [← e, hx] at hdk; cases hdk
  refine ⟨_, rfl, x, _, dx, [], rfl, by rw [upd_ne n1]; exact hx, D.c, D.n_kept, by simp, ?_⟩
  refine ⟨_, rfl, x, _, dx, _, rfl, upd_same, D.c, D.n_wide, putF_len1, ?_⟩
  refine ⟨Nat.zero_le _, fun pl hpl => ?_⟩
  have n2 : pl ≠ x := fun e => by rw [e, upd_same] at hpl; cases hpl
  have hpl2 : (upd H dk (.dK [])) pl = none := by
    rw [upd_ne n2, upd_ne n2] at hpl
    exact hpl
  have n3 : pl ≠ dk := fun e => by rw [e, upd_same] at hpl2; cases hpl2
  refine ⟨_, rfl, x, _, dx, _, rfl, by rw [upd_ne (Ne.symm n2)]; exact upd_same, D.c, D.n_past, putF_len2, ?_⟩
  have hpl3 : H pl = none := by
    rw [upd_ne n3] at hpl2
    exact hpl2
  refine hQ _ dk pl (fun b o hb ho => ?_) hdk hpl3 ?_ ?_ ?_
  · have b1 : b ≠ dk := fun e => by rw [e, hdk] at ho; cases ho
    have b2 : b ≠ pl := fun e => by rw [e, hpl3] at ho; cases ho
    rw [upd_ne hb, upd_ne b2, upd_ne hb, upd_ne hb, upd_ne b1]
    exact ho
  · rw [upd_same]
    rfl
  · rw [upd_ne (Ne.symm n1), upd_ne (Ne.symm n3), upd_ne (Ne.symm n1), upd_ne (Ne.symm n1), upd_same]
  · rw [upd_ne n2, upd_same]
/-- a desk is made -/
theorem mk_desk {H1 : Hp} {Q : VK} (hQ : ∀ a pl H', Same H1 H' → H1 a = none → H1 pl = none → DeskO K H' [] 0 a pl → DkNew K H1 H' a → Q (.ref a) H') :
    ∀ x dx, H1 x = none → H1 dx = none → dx ≠ x → spKInit K (.ref x :: ([] ++ [])) (upd (upd H1 dx (.own x)) x (.ins (KC K) dx [])) (fun v H2 => v = .non ∧ Q (.ref x) H2) E0 := by
  intro x dx hx hdx hne
  refine ⟨x, dx, rfl, upd_same, fun H' dk pl k hdk hpl e1 e2 e3 => ⟨rfl, ?_⟩⟩
  have n1 : pl ≠ x := fun e => by rw [e, upd_same] at hpl; cases hpl
  have hpl1 : H1 pl = none := by
    rw [upd_ne n1] at hpl
    by_cases e : pl = dx
    · rw [e, upd_same] at hpl
      cases hpl
    · rw [upd_ne e] at hpl
      exact hpl
  have n2 : dk ≠ x := fun e => by rw [e, upd_same] at hdk; cases hdk
  have hdk1 : H1 dk = none := by
    rw [upd_ne n2] at hdk
    by_cases e : dk = dx
    · rw [e, upd_same] at hdk
      cases hdk
    · rw [upd_ne e] at hdk
      exact hdk
  refine hQ x pl H' (fun b o ho => ?_) hx hpl1 ⟨⟨.nil, by simp, (fun _ h => nomatch h), (fun _ h => nomatch h), (fun _ h => nomatch h)⟩, dx, dk, [], [], e1, e2, trivial, e3, by simp⟩ ⟨dx, _, dk, e1, rfl, hdk1⟩
  have b1 : b ≠ x := fun e => by rw [e, hx] at ho; cases ho
  have b2 : b ≠ dx := fun e => by rw [e, hdx] at ho; cases ho
  refine k b o b1 ?_
  rw [upd_ne b1, upd_ne b2]
  exact ho
theorem sc_names : FnScope ["self"] ["self"] (defScope (mem 27 3)) := mkScope
def spNames (K : PySem.W.Frag) : Sp := fun vs H Q _ => ∃ a pl M c, vs = [.ref a] ∧ DeskAt K H M c a pl ∧ ∀ q H', Same H H' → H q = none → H' q = some (.tup ((nrm (keys M)).map .str)) → Q (.ref q) H'
theorem hp_names (D : DeskTx K mg) (g_tuple : mg "tuple" = none) (g_sorted : mg "sorted" = none) : HasP P w K mg base 1 (KC K) "names" (He.ma K (KC K) "names") (pA K (KC K) "names") ["self"] (spNames K) := by
  refine ⟨?_, D.c, D.p_names, D.d_names.bindsN fun _ _ _ _ _ _ us hl => match us, hl with | [_], _ => rfl⟩
  refine D.d_names.ok sc_names (fun vs H Q E ⟨_, _, _, _, e, _⟩ => by rw [e] <;> rfl) (fun cdv A outer s H vs Q E hr ⟨a, pl, M, c, ev, hd, hQ⟩ => ⟨_, PSs.nox (pss_one (ps_ret (tupq K rfl g_tuple (pe_callB (call_sortedD rfl) rfl g_sorted Boot.«sorted» (pa_cons (fld K (pv 0)) pa_nil))))), ?_⟩)
  subst ev
  obtain ⟨dx, dk, ws, xs, h1, h2, h3, h4, h5⟩ := hd.at_
  have hl := hd.good.len
  refine ⟨_, rfl, a, _, dx, _, _, rfl, h1, D.c, D.n_kept, rfl, dk, _, keys M, rfl, h2, by rw [asKeysV_keys, h3.keys], by rw [keys_len]; omega, fun ys p hp hs hpn => ?_⟩
  have ey := perm_nrm hp hs hd.good.nd
  have s1 := Same.upd (o := .lst (ys.map V.str)) hpn
  refine .inl ⟨p, _, rfl, sqL_of upd_same, fun q hq => ?_⟩
  exact hQ q _ (Same.upd2 s1 hq) (s1.free hq) (by rw [upd_same, ey])
end
end Q41
set_option maxRecDepth 100000
set_option maxHeartbeats 4000000
/-! Desk, 2: put. -/
namespace Q41
open PySem PySem.Spec PyProof.Rows L2
/-- kept under a name, in its place or behind -/
def putA {α : Type} (l : List (Str × α)) (n : Str) (v : α) : List (Str × α) := if n ∈ l.map (·.1) then l.map (fun kv => if kv.1 = n then (kv.1, v) else kv) else l ++ [(n, v)]
theorem putA_new {α : Type} {l : List (Str × α)} {n : Str} {v : α} (h : n ∉ l.map (·.1)) : putA l n v = l ++ [(n, v)] := if_neg h
theorem putA_keys {α : Type} (l : List (Str × α)) (n : Str) (v : α) : (putA l n v).map (·.1) = if n ∈ l.map (·.1) then l.map (·.1) else l.map (·.1) ++ [n] := by
  unfold putA
  split
  · rw [List.map_map]
    refine List.map_congr_left fun kv _ => ?_
    show (if kv.1 = n then (kv.1, v) else kv).1 = kv.1
    split <;> rfl
  · simp
theorem putA_mem {α : Type} {l : List (Str × α)} {n : Str} {v : α} {p : Str × α} (h : p ∈ putA l n v) : p ∈ l ∨ p = (n, v) := by
  unfold putA at h
  split at h
  · obtain ⟨kv, hk, rfl⟩ := List.mem_map.mp h
    split
    · rename_i e
      exact .inr (by rw [e])
    · exact .inl hk
  · rcases List.mem_append.mp h with h | h
    · exact .inl h
    · exact .inr (List.mem_singleton.mp h)
theorem putA_len {α : Type} {l : List (Str × α)} {n : Str} {v : α} : (putA l n v).length ≤ l.length + 1 := by
  unfold putA
  split <;> simp
theorem putA_asK {l : List (Str × V)} {n : Str} {v : V} : putK (asKeysV l) (.inr n) v = asKeysV (putA l n v) := by
  have h1 : ((asKeysV l).any fun kv => decide (kv.1 = Sum.inr n)) = decide (n ∈ l.map (·.1)) := by
    unfold asKeysV
    rw [List.any_map]
    induction l with
    | nil => rfl
    | cons p l ih =>
      rw [List.any_cons, ih]
      by_cases e : p.1 = n
      · simp [e]
      · have e2 : ¬ n = p.1 := fun q => e q.symm
        simp [e, e2]
  unfold putK putA
  rw [h1]
  by_cases h : n ∈ l.map (·.1)
  · rw [if_pos (decide_eq_true h), if_pos h]
    unfold asKeysV
    rw [List.map_map, List.map_map]
    refine List.map_congr_left fun kv _ => ?_
    show (if (Sum.inr kv.1 : Key) = Sum.inr n then (Sum.inr kv.1, v) else (Sum.inr kv.1, kv.2)) = _
    by_cases e : kv.1 = n
    · have e2 : (Sum.inr kv.1 : Key) = Sum.inr n := by rw [e]
      rw [if_pos e2]
      show _ = (Sum.inr (if kv.1 = n then (kv.1, v) else kv).1, (if kv.1 = n then (kv.1, v) else kv).2)
      rw [if_pos e]
    · have e2 : ¬ (Sum.inr kv.1 : Key) = Sum.inr n := fun q => e (by injection q)
      rw [if_neg e2]
      show _ = (Sum.inr (if kv.1 = n then (kv.1, v) else kv).1, (if kv.1 = n then (kv.1, v) else kv).2)
      rw [if_neg e]
  · rw [if_neg (by simpa using h), if_neg h]
    simp [asKeysV]
theorem DocsAt.put {K : PySem.W.Frag} {H : Hp} {n : Str} {f : Fm} {v : V} (d : DocAt K H f v) {ws : List (Str × V)} {M : Kp} (h : DocsAt K H ws M) : DocsAt K H (putA ws n v) (putA M n f) := by
  have hk : ws.map (·.1) = M.map (·.1) := h.keys
  unfold putA
  rw [hk]
  by_cases hn : n ∈ M.map (·.1)
  · rw [if_pos hn, if_pos hn]
    clear hn hk
    induction ws generalizing M with
    | nil => cases M with
      | nil => trivial
      | cons => exact h.elim
    | cons p ws ih => cases M with
      | nil => exact h.elim
      | cons q M =>
        obtain ⟨h1, h2, h3⟩ := h
        refine ⟨?_, ?_, ih h3⟩
        · show (if p.1 = n then (p.1, v) else p).1 = (if q.1 = n then (q.1, f) else q).1
          rw [show p.1 = q.1 from h1]
          split <;> simp_all
        · show DocAt K H (if q.1 = n then (q.1, f) else q).2 (if p.1 = n then (p.1, v) else p).2
          rw [show p.1 = q.1 from h1]
          split
          · exact d
          · exact h2
  · rw [if_neg hn, if_neg hn]
    clear hn hk
    induction ws generalizing M with
    | nil => cases M with
      | nil => exact ⟨rfl, d, trivial⟩
      | cons => exact h.elim
    | cons p ws ih => cases M with
      | nil => exact h.elim
      | cons q M => exact ⟨h.1, h.2.1, ih h.2.2⟩
theorem Good.put {M : Kp} (g : Good M) {n : Str} {f : Fm} (hn : nameOk n = true) (hf : f.ok = true) (hd : f.depth ≤ 3) (hl : M.length < 30) : Good (putA M n f) := by
  refine ⟨?_, ?_, fun p hp => ?_, fun p hp => ?_, fun p hp => ?_⟩
  · show ((putA M n f).map (·.1)).Nodup
    rw [putA_keys]
    split
    · exact g.nd
    · rename_i h
      rw [List.nodup_append]
      exact ⟨g.nd, by simp, fun a ha b hb e => h (by rw [← List.mem_singleton.mp hb, ← e]; exact ha)⟩
  · have := putA_len (l := M) (n := n) (v := f)
    omega
  · rcases putA_mem hp with h | rfl
    · exact g.name p h
    · exact hn
  · rcases putA_mem hp with h | rfl
    · exact g.ok p h
    · exact hf
  · rcases putA_mem hp with h | rfl
    · exact g.dp p h
    · exact hd
/-- all stands but a and pl -/
def Bar (a pl : Addr) (H H' : Hp) : Prop := ∀ b o, b ≠ a → b ≠ pl → H b = some o → H' b = some o
theorem Bar.same {a pl : Addr} {H1 H H' : Hp} (h : Bar a pl H H') (s : Same H1 H) (ha : H1 a = none) (hp : H1 pl = none) : Same H1 H' := fun b o e => h b o (fun z => by rw [z, ha] at e; cases e) (fun z => by rw [z, hp] at e; cases e) (s _ _ e)
theorem Bar.seqT {K : PySem.W.Frag} {a pl : Addr} {H H' : Hp} {C dx : Addr} {fs : List (Str × V)} {xs : List V} (h : Bar a pl H H') (ha : H a = some (.ins C dx fs)) (hp : H pl = some (.lst xs)) (b : Addr) (us : List V) (q : SqT K H b us) : SqT K H' b us := by
  have n1 : ∀ {u : HO}, H b = some u → (∀ fs, u ≠ .ins C dx fs) → (∀ xs, u ≠ .lst xs) → H' b = some u := fun {u} e z1 z2 => h b u (fun z => by rw [z, ha] at e; injection e with e; exact z1 _ e.symm) (fun z => by rw [z, hp] at e; injection e with e; exact z2 _ e.symm) e
  rcases q with (q | ⟨o, q⟩) | q
  · exact .inl (.inl (n1 q (fun _ z => by cases z) (fun _ z => by cases z)))
  · exact .inl (.inr ⟨o, n1 q (fun _ z => by cases z) (fun _ z => by cases z)⟩)
  · exact .inr q
theorem Bar.rd {a pl : Addr} {H H' : Hp} {C dx : Addr} {fs : List (Str × V)} {xs : List V} {kvs : List (Key × V)} {d : Addr} (h : Bar a pl H H') (ha : H a = some (.ins C dx fs)) (hp : H pl = some (.lst xs)) (q : Rd H d (.dK kvs)) : Rd H' d (.dK kvs) := by
  have n1 : ∀ {u : HO}, H d = some u → (∀ fs, u ≠ .ins C dx fs) → (∀ xs, u ≠ .lst xs) → H' d = some u := fun {u} e z1 z2 => h d u (fun z => by rw [z, ha] at e; injection e with e; exact z1 _ e.symm) (fun z => by rw [z, hp] at e; injection e with e; exact z2 _ e.symm) e
  rcases q with q | ⟨o, q⟩
  · exact .inl (n1 q (fun _ z => by cases z) (fun _ z => by cases z))
  · exact .inr ⟨o, n1 q (fun _ z => by cases z) (fun _ z => by cases z)⟩
theorem Bar.doc {K : PySem.W.Frag} {a pl : Addr} {H H' : Hp} {C dx : Addr} {fs : List (Str × V)} {xs : List V} {f : Fm} {v : V} (h : Bar a pl H H') (ha : H a = some (.ins C dx fs)) (hl : 2 ≤ fs.length) (hp : H pl = some (.lst xs)) (q : DocAt K H f v) : DocAt K H' f v := by
  obtain ⟨b, dy, s, rfl, h1, h2⟩ := q
  refine ⟨b, dy, s, rfl, h b _ (fun z => ?_) (fun z => ?_) h1, h2.mono (h.seqT ha hp)⟩
  · rw [z, ha] at h1
    injection h1 with h1
    injection h1 with _ _ h1
    rw [h1] at hl
    simp at hl
  · rw [z, hp] at h1
    cases h1
theorem Bar.docs {K : PySem.W.Frag} {a pl : Addr} {H H' : Hp} {C dx : Addr} {fs : List (Str × V)} {xs : List V} (h : Bar a pl H H') (ha : H a = some (.ins C dx fs)) (hl : 2 ≤ fs.length) (hp : H pl = some (.lst xs)) : ∀ {ws : List (Str × V)} {M : Kp}, DocsAt K H ws M → DocsAt K H' ws M
  | [], [], _ => trivial
  | (_, _) :: _, (_, _) :: _, ⟨h1, h2, h3⟩ => ⟨h1, h.doc ha hl hp h2, Bar.docs h ha hl hp h3⟩
section
variable {P : Program} {w : World} {K : PySem.W.Frag} {mg : Str → Option Value} {base : Heap} {f fR fN fS fI fF fP : Addr}
theorem sc_remember : FnScope ["self"] ["self"] (defScope (mem 27 4)) := mkScope
def spRemember (K : PySem.W.Frag) : Sp := fun vs H Q _ => ∃ a pl M c, vs = [.ref a] ∧ DeskAt K H M c a pl ∧ c < 1000 ∧ ∀ H', (∀ b o, b ≠ pl → H b = some o → H' b = some o) → DeskAt K H' M (c + 1) a pl → Q .non H'
theorem hm_remember (D : DeskTx K mg) (g_dict : mg "dict" = none) : HasM P w K mg base 1 (KC K) "remember" (He.ma K (KC K) "remember") ["self"] (spRemember K) := by
  refine ⟨?_, D.c, D.m_remember, D.d_remember.bindsN fun _ _ _ _ _ _ us hl => match us, hl with | [_], _ => rfl⟩
  refine D.d_remember.ok sc_remember (fun vs H Q E ⟨_, _, _, _, e, _⟩ => by rw [e] <;> rfl) (fun cdv A outer s H vs Q E hr ⟨a, pl, M, c, ev, hd, hc, hQ⟩ => ⟨_, PSs.nox (pss_one (ps_expr (pe_bm PySem.F.plainAttrs_list PySem.F.slot_list_append PySem.F.type_list_append mt_append (fld K (pv 0)) (pa_cons (pe_tup (pa_cons (pe_callTy call_dictD rfl g_dict Boot.«dict» (pa_cons (fld K (pv 0)) pa_nil)) (pa_cons (fld K (pv 0)) pa_nil))) pa_nil)))), ?_⟩)
  subst ev
  obtain ⟨dx, dk, ws, xs, h1, h2, h3, h4, h5⟩ := hd.at_
  refine ⟨_, rfl, a, _, dx, _, _, rfl, h1, D.c, D.n_past, rfl, .inl ⟨rfl, xs, sqL_of h4⟩, ?_⟩
  refine ⟨_, rfl, a, _, dx, _, _, rfl, h1, D.c, D.n_kept, rfl, dk, _, rfl, h2, fun p hp => ?_⟩
  have s1 := Same.upd (o := .dK (asKeysV ws)) hp
  refine ⟨_, rfl, a, _, dx, _, _, rfl, s1 _ _ h1, D.c, D.n_wide, rfl, le_line (by simp), fun q hq => ?_⟩
  have s2 := s1.trans (Same.upd (o := .tup [.ref p, .int 80]) hq)
  refine ⟨pl, xs, _, rfl, rfl, s2 _ _ h4, by rw [sizeLine_eq]; omega, ?_⟩
  have B : ∀ b o, b ≠ pl → H b = some o → (upd (upd (upd H p (.dK (asKeysV ws))) q (.tup [.ref p, .int 80])) pl (.lst (xs ++ [.ref q]))) b = some o := fun b o n e => by
    rw [upd_ne n]
    exact s2 _ _ e
  have ne : a ≠ pl := fun e => by rw [e, h4] at h1; cases h1
  have BB : Bar a pl H (upd (upd (upd H p (.dK (asKeysV ws))) q (.tup [.ref p, .int 80])) pl (.lst (xs ++ [.ref q]))) := fun b o _ n e => B b o n e
  refine hQ _ B ⟨hd.good, dx, dk, ws, _, B _ _ ne h1, BB.rd h1 h4 h2, BB.docs h1 (by simp) h4 h3, upd_same, by simp [h5]⟩
theorem sc_after : FnScope ["kept", "name", "doc"] ["kept", "name", "doc"] (defScope (top 28)) := mkScope
def spAfter (K : PySem.W.Frag) : Sp := fun vs H Q _ => ∃ dk ws n f v, vs = [.ref dk, .str n, v] ∧ Rd H dk (.dK (asKeysV ws)) ∧ ws.length < 1000 ∧ nameOk n = true ∧ DocAt K H f v ∧ ∀ p H', Same H H' → H p = none → H' p = some (.dK (asKeysV (putA ws n v))) → Q (.ref p) H'
theorem has_after (T : TopDef K mg "after_put" (top 28) [] f) (h_is_name : Has P w K mg base 1 "is_name" fN ["thing"] (spIsName K)) (h_require_doc : Has P w K mg base 1 "require_doc" fR ["thing"] (spReq K)) : Has P w K mg base 2 "after_put" f ["kept", "name", "doc"] (spAfter K) := by
  refine mkHas T ?_ (T.d.bindsN fun _ _ _ _ _ _ us hl => match us, hl with | [_, _, _], _ => rfl)
  refine T.d.ok sc_after (fun vs H Q E ⟨_, _, _, _, _, e, _⟩ => by rw [e] <;> rfl) (fun cdv A outer s H vs Q E hr ⟨dk, ws, n, f, v, ev, hk, hl, hn, hf, hQ⟩ => ⟨_, PSs.nox (pss_cons (ps_if (pt_not (pt_val (pe_hc h_is_name (hr.mono (by omega)) rfl (pa_cons (pv 1) pa_nil)))) (pss_one ps_never) pss_nil) (pss_cons (ps_expr (pe_hc h_require_doc (hr.mono (by omega)) rfl (pa_cons (pv 2) pa_nil))) (pss_one (ps_ret (pe_dispS (pv 0) (pv 1) (pv 2)))))), ?_⟩)
  subst ev
  refine ⟨_, rfl, .inl ⟨n, rfl, by have := (nameOk_iff.mp hn).2.1; omega, fun H1 s1 => ⟨_, rfl, ?_⟩⟩⟩
  rw [hn]
  refine ifF rfl ?_
  refine ⟨_, rfl, f, v, rfl, hf.same s1, ?_⟩
  intro p hp
  have s2 := s1.trans (Same.upd (o := .dK []) hp)
  have np : dk ≠ p := fun e => by
    rcases Same.rd s1 hk with h | ⟨_, h⟩
    · rw [e, hp] at h
      cases h
    · rw [e, hp] at h
      cases h
  refine ⟨_, rfl, dk, _, rfl, Same.rd s2 hk, upd_same, np, fun q hq => ?_⟩
  have nq : q ≠ p := fun e => by rw [e, upd_same] at hq; cases hq
  refine ⟨_, rfl, _, rfl, .inr n, rfl, upd_same, by rw [upd_ne (Ne.symm nq), upd_same], by simp [asKeysV]; omega, ?_⟩
  have hq2 : H q = none := by
    rw [upd_ne nq, upd_ne nq] at hq
    exact s1.free hq
  refine hQ p _ (fun b o e => ?_) (s1.free hp) ?_
  · have b1 : b ≠ p := fun z => by rw [z, s1.free hp] at e; cases e
    have b2 : b ≠ q := fun z => by rw [z, hq2] at e; cases e
    rw [upd_ne b1, upd_ne b2, upd_ne b2, upd_ne b1, upd_ne b1]
    exact s1 _ _ e
  · rw [upd_same, putA_asK]
theorem sc_put : FnScope ["self", "name", "doc", "found"] ["self", "name", "doc"] (defScope (mem 27 5)) := mkScope
def spPut (K : PySem.W.Frag) : Sp := fun vs H Q _ => ∃ a pl M c n f v, vs = [.ref a, .str n, v] ∧ DeskAt K H M c a pl ∧ c < 1000 ∧ nameOk n = true ∧ f.ok = true ∧ f.depth ≤ 3 ∧ M.length < 30 ∧ DocAt K H f v ∧ ∀ H', Bar a pl H H' → DeskO K H' (putA M n f) (c + 1) a pl → DkNew K H H' a → Q .non H'
theorem hm_put (D : DeskTx K mg) (g_dict : mg "dict" = none) (h_after_put : Has P w K mg base 2 "after_put" fP ["kept", "name", "doc"] (spAfter K)) : HasM P w K mg base 3 (KC K) "put" (He.ma K (KC K) "put") ["self", "name", "doc"] (spPut K) := by
  have m_remember := hm_remember (P := P) (w := w) (base := base) D g_dict
  refine ⟨?_, D.c, D.m_put, D.d_put.bindsN fun _ _ _ _ _ _ us hl => match us, hl with | [_, _, _], _ => rfl⟩
  refine D.d_put.ok sc_put (fun vs H Q E ⟨_, _, _, _, _, _, _, e, _⟩ => by rw [e] <;> rfl) (fun cdv A outer s H vs Q E hr ⟨a, pl, M, c, n, f, v, ev, hd, hc, hn, hf, hdp, hM, hv, hQ⟩ => ⟨_, PSs.nox (pss_cons (ps_set (i := 3) sc_put.nd rfl (.inl rfl) (pe_hc h_after_put (hr.mono (by omega)) rfl (pa_cons (fld K (pv 0)) (pa_cons (pv 1) (pa_cons (pv 2) pa_nil))))) (pss_cons (ps_expr (pe_hm0 m_remember (hr.mono (by omega)) (pv 0))) (pss_one (ps_fld (pv 0) (pv 3) rfl)))), ?_⟩)
  subst ev
  obtain ⟨dx, dk, ws, xs, h1, h2, h3, h4, h5⟩ := hd.at_
  have hwl : ws.length = M.length := by
    have := congrArg List.length h3.keys
    rwa [List.length_map, keys_len] at this
  refine ⟨_, rfl, a, _, dx, _, _, rfl, h1, D.c, D.n_kept, rfl, _, rfl, _, rfl, dk, ws, n, f, v, rfl, h2, by omega, hn, hv, fun p H1 s1 hp e1 => ?_⟩
  have np : p ≠ pl := fun e => by rw [e, h4] at hp; cases hp
  refine ⟨_, rfl, a, dx, _, rfl, s1 _ _ h1, rfl, a, pl, M, c, rfl, hd.same s1, hc, fun H2 B hd2 => ?_⟩
  obtain ⟨dx2, dk2, ws2, xs2, k1, k2, k3, k4, k5⟩ := hd2.at_
  have ne : a ≠ pl := fun e => by rw [e, h4] at h1; cases h1
  have e2 := B _ _ np e1
  have a2 := B _ _ ne (s1 _ _ h1)
  have na : p ≠ a := fun e => by rw [e, h1] at hp; cases hp
  refine ⟨_, rfl, _, rfl, a, _, dx, _, rfl, a2, D.c, D.n_kept, by simp, ?_⟩
  have BB : Bar a pl H (upd H2 a (.ins (KC K) dx (putF "kept" (.ref p) [("kept", .ref dk), ("wide", .int 80), ("past", .ref pl)]))) := fun b o n1 n2 e => by
    rw [upd_ne n1]
    exact B _ _ n2 (s1 _ _ e)
  have ws3 := BB.docs h1 (by simp) h4 h3
  have dv := BB.doc h1 (by simp) h4 hv
  refine hQ _ BB ⟨hd.good.put hn hf hdp hM, dx, p, putA ws n v, xs2, ?_, ?_, ws3.put dv, ?_, k5⟩ ⟨dx, _, p, upd_same, rfl, hp⟩
  · rw [upd_same]
    rfl
  · rw [upd_ne na]
    exact e2
  · rw [upd_ne (Ne.symm ne)]
    exact k4
end
end Q41
set_option maxRecDepth 100000
set_option maxHeartbeats 4000000
/-! Desk, 3: used, led. -/
namespace Q41
open PySem PySem.Spec PyProof.Rows L2
section
variable {P : Program} {w : World} {K : PySem.W.Frag} {mg : Str → Option Value} {base : Heap} {f fR fN fS fI fF fP : Addr}
/-- what a desk's dict says of a name -/
theorem desk_get {H : Hp} {ws : List (Str × V)} {M : Kp} {dk : Addr} (h2 : Rd H dk (.dK (asKeysV ws))) (h3 : DocsAt K H ws M) {n : Str} {f : Fm} (e : M.lookup n = some f) : ∃ v, DGet H dk (.str n) (some v) ∧ DocAt K H f v := by
  obtain ⟨v, h4, h5⟩ := h3.get e
  exact ⟨v, .inl ⟨_, .inr n, h2, rfl, h4.symm⟩, h5⟩
theorem asKeysV_none {ws : List (Str × V)} {n : Str} (h : n ∉ ws.map (·.1)) : valV (asKeysV ws) (.inr n) = none := by
  cases e : valV (asKeysV ws) (.inr n) with
  | none => rfl
  | some v =>
    exfalso
    have := valV_any (.inr n) (asKeysV ws)
    rw [e] at this
    obtain ⟨kv, hk, e2⟩ := List.any_eq_true.mp this
    obtain ⟨p, hp, rfl⟩ := List.mem_map.mp hk
    have e2 := of_decide_eq_true e2
    injection e2 with e2
    exact h (List.mem_map.mpr ⟨p, hp, e2⟩)
theorem desk_in {H : Hp} {ws : List (Str × V)} {M : Kp} {dk : Addr} (h2 : Rd H dk (.dK (asKeysV ws))) (h3 : DocsAt K H ws M) (n : Str) : ∃ o, DGet H dk (.str n) o ∧ o.isSome = decide (n ∈ keys M) := by
  by_cases h : n ∈ keys M
  · obtain ⟨f, e⟩ := lookup_some.mpr h
    obtain ⟨v, h4, _⟩ := desk_get h2 h3 e
    exact ⟨some v, h4, by rw [decide_eq_true h]; rfl⟩
  · refine ⟨none, .inl ⟨_, .inr n, h2, rfl, (asKeysV_none (by rw [h3.keys]; exact h)).symm⟩, by rw [decide_eq_false h]; rfl⟩
def inK (M : Kp) (v : V) : Option V := match v with
  | .str z => if z ∈ keys M then some v else none
  | _ => none
theorem inK_map (M : Kp) (l : List Str) : (l.map V.str).filterMap (inK M) = (l.filter fun x => decide (x ∈ keys M)).map V.str := by
  induction l with
  | nil => rfl
  | cons x l ih =>
    rw [List.map_cons, List.filterMap_cons, List.filter_cons, ih]
    by_cases h : x ∈ keys M
    · simp [inK, h]
    · simp [inK, h]
theorem sc_used : FnScope ["self", "name", "other"] ["self", "name"] (defScope (mem 27 15)) := mkScope
def spUsed (K : PySem.W.Frag) : Sp := fun vs H Q _ => ∃ a pl M c n f, vs = [.ref a, .str n] ∧ DeskAt K H M c a pl ∧ M.lookup n = some f ∧ ∀ l H', Same H H' → H l = none → H' l = some (.lst ((used M n).map .str)) → Q (.ref l) H'
theorem hm_used (D : DeskTx K mg) (p_holes : HasP P w K mg base 3 (DC K) "holes" (He.ma K (DC K) "holes") (pA K (DC K) "holes") ["self"] (spHoles K)) : HasM P w K mg base 5 (KC K) "used" (He.ma K (KC K) "used") ["self", "name"] (spUsed K) := by
  refine ⟨?_, D.c, D.m_used, D.d_used.bindsN fun _ _ _ _ _ _ us hl => match us, hl with | [_, _], _ => rfl⟩
  refine D.d_used.ok sc_used (fun vs H Q E ⟨_, _, _, _, _, _, e, _⟩ => by rw [e] <;> rfl) (fun cdv A outer s H vs Q E hr ⟨a, pl, M, c, n, f, ev, hd, hf, hQ⟩ => ⟨_, PSs.nox (pss_one (ps_ret (pe_lc (own := [("other", 2)]) rfl sc_used.nd (pit K (pe_hp p_holes (hr.mono (by omega)) (pe_dget (hu_of hr) (fld K (pv 0)) (pv 1) (by intro _ _; rfl)))) (mkBlk (N := ["self", "name", "other"]) (sc := defScope (mem 27 15))) (fun _ _ _ _ _ => pg_name sc_used.nd (i := 2) rfl (.inl rfl)) (fun _ _ _ _ _ => (pts_one (pt_cmp (pc_din (hu_of hr) (pv 2) (fld K (pv 0)))))) (fun _ _ _ _ _ => (pv 2))))), ?_⟩)
  subst ev
  obtain ⟨dx, dk, ws, xs, h1, h2, h3, h4, h5⟩ := hd.at_
  obtain ⟨v, hg, hv⟩ := desk_get h2 h3 hf
  have hz := hd.good.size hf
  obtain ⟨b, dy, s, rfl, k1, k2⟩ := id hv
  refine ⟨_, rfl, a, _, dx, _, _, rfl, h1, D.c, D.n_kept, rfl, _, rfl, dk, _, rfl, hg, b, dy, _, rfl, k1, f, .ref b, rfl, hv, by omega, fun q H1 s1 hq e1 => ?_⟩
  refine ⟨q, rfl, ⟨_, sqT_of e1⟩, fun L hL => ?_⟩
  have hl : (nrm f.holes).length ≤ 15 := Nat.le_trans nrm_length (Nat.le_trans f.holes_size hz)
  refine lc_same walk_tup (inK M) rfl (by rw [List.length_map]; omega) hL (fun H2 s2 => sqT_of (s2 _ _ e1)) yat (fun x hx H2 s2 Q2 q2 => ?_) fun H2 s2 e2 => ?_
  · obtain ⟨z, hz, rfl⟩ := List.mem_map.mp hx
    have s12 := s1.trans s2
    obtain ⟨o, ho, eo⟩ := desk_in (Same.rd s12 h2) (h3.same s12) z
    refine ⟨rfl, _, rfl, _, rfl, a, _, dx, _, _, rfl, s12 _ _ h1, D.c, D.n_kept, rfl, dk, o, rfl, ho, ?_⟩
    rw [eo]
    refine ⟨_, rfl, ?_⟩
    by_cases hk : z ∈ keys M
    · refine ifT (decide_eq_true hk) ⟨_, rfl, ?_⟩
      have := q2 H2 (Same.refl _)
      rwa [inK, if_pos hk] at this
    · refine ifF (decide_eq_false hk) ?_
      have := q2 H2 (Same.refl _)
      rwa [inK, if_neg hk] at this
  · refine hQ L H2 (s1.trans s2) (s1.free hL) ?_
    rw [e2, inK_map, used, hf]
end
end Q41
set_option maxRecDepth 100000
set_option maxHeartbeats 4000000
/-! Lists of texts compared. -/
namespace Q41
open PySem PySem.Spec PyProof.Rows L2
theorem inV_str {z : Str} {l : List Str} : inV (.str z) (l.map V.str) = decide (z ∈ l) := by
  unfold inV
  induction l with
  | nil => rfl
  | cons x l ih =>
    rw [List.map_cons, List.any_cons, ih]
    show ((x == z) || _) = _
    rw [str_eqb]
    by_cases h : x = z
    · simp [h]
    · have h2 : ¬ z = x := fun e => h e.symm
      simp [h, h2]
theorem flat_strs (l : List Str) : (l.map V.str).all flatV = true := by
  rw [List.all_map, List.all_eq_true]
  intro x _
  rfl
theorem dpAll_strs {K : PySem.W.Frag} {H : Hp} (l : List Str) : DpAll K H (l.map V.str) (l.map PyData.str) := by
  induction l with
  | nil => exact .nil
  | cons x l ih => exact .cons (.str x) ih
theorem canLayAll_strs {l : List Str} (h : ∀ x ∈ l, PyData.strOk x = true) : PyData.canLayAll0 (l.map PyData.str) = true := by
  induction l with
  | nil => rfl
  | cons x l ih =>
    simp only [List.map_cons, PyData.canLayAll0, PyData.canLay0, h x List.mem_cons_self, ih fun y hy => h y (List.mem_cons_of_mem _ hy), Bool.and_self]
theorem depthAll_strs (l : List Str) : PyData.depthAll (l.map PyData.str) ≤ 1 := by
  induction l with
  | nil => exact Nat.zero_le _
  | cons x l ih =>
    simp only [List.map_cons, PyData.depthAll, PyData.depth]
    omega
theorem shaped_strs {l : List Str} (h : ∀ x ∈ l, PyData.strOk x = true) : SeqAt.shaped (.list (l.map .str)) = true := by
  unfold SeqAt.shaped
  rw [Bool.and_eq_true, decide_eq_true_eq]
  refine ⟨canLayAll_strs h, ?_⟩
  have := depthAll_strs l
  simp only [PyData.depth]
  omega
theorem shapedT_strs {l : List Str} (h : ∀ x ∈ l, PyData.strOk x = true) : SeqAt.shaped (.tuple (l.map .str)) = true := by
  unfold SeqAt.shaped
  rw [Bool.and_eq_true, decide_eq_true_eq]
  refine ⟨canLayAll_strs h, ?_⟩
  have := depthAll_strs l
  simp only [PyData.depth]
  omega
theorem eqvAll_strs : ∀ {l m : List Str}, PyData.eqvAll (l.map .str) (m.map .str) = decide (l = m)
  | [], [] => rfl
  | [], _ :: _ => rfl
  | _ :: _, [] => rfl
  | x :: l, y :: m => by
    simp only [List.map_cons, PyData.eqvAll, PyData.eqv, eqvAll_strs (l := l) (m := m)]
    by_cases h : x = y
    · by_cases h2 : l = m
      · simp [h, h2]
      · simp [h, h2]
    · simp [h]
theorem eqv_strs {l m : List Str} : PyData.eqv (.list (l.map .str)) (.list (m.map .str)) = decide (l = m) := eqvAll_strs
theorem eqvT_strs {l m : List Str} : PyData.eqv (.tuple (l.map .str)) (.tuple (m.map .str)) = decide (l = m) := eqvAll_strs
/-- a list of texts is told from the empty list -/
theorem ne_nil {K : PySem.W.Frag} {H : Hp} {p q : Addr} {l : List Str} {Q : VK} (h : SqL K H p (l.map V.str)) (e : SqL K H q []) (hk : ∀ x ∈ l, PyData.strOk x = true) (hQ : Q (.bl (!decide (l = []))) H) : rNeD K (.ref p) (.ref q) H Q :=
  ⟨_, _, .lst h (dpAll_strs l), .lst (xs := []) (ds := ([] : List Str).map PyData.str) e .nil, shaped_strs hk, shaped_strs (l := []) (fun _ h => nomatch h), by rw [eqv_strs]; exact hQ⟩
theorem eq_nil {K : PySem.W.Frag} {H : Hp} {p q : Addr} {l : List Str} {Q : VK} (h : SqL K H p (l.map V.str)) (e : SqL K H q []) (hk : ∀ x ∈ l, PyData.strOk x = true) (hQ : Q (.bl (decide (l = []))) H) : rEqD K (.ref p) (.ref q) H Q :=
  ⟨_, _, .lst h (dpAll_strs l), .lst (xs := []) (ds := ([] : List Str).map PyData.str) e .nil, shaped_strs hk, shaped_strs (l := []) (fun _ h => nomatch h), by rw [eqv_strs]; exact hQ⟩
end Q41
set_option maxRecDepth 100000
set_option maxHeartbeats 4000000
/-! Desk, 4: led. -/
namespace Q41
open PySem PySem.Spec PyProof.Rows L2
theorem nil_or {α : Type} (l : List α) : l = [] ∨ ∃ vs x, l = vs ++ [x] := by
  rcases List.eq_nil_or_concat l with h | ⟨vs, x, h⟩
  · exact .inl h
  · exact .inr ⟨vs, x, by rw [h, List.concat_eq_append]⟩
theorem used_len {M : Kp} (g : Good M) (n : Str) : (used M n).length ≤ 15 := by
  unfold used
  split
  · rename_i f h
    have h1 := List.length_filter_le (fun x => decide (x ∈ keys M)) (nrm f.holes)
    have h2 := nrm_length (l := f.holes)
    have h3 := f.holes_size
    have h4 := g.size h
    omega
  · exact Nat.zero_le _
/-- the while of led: found, waiting -/
structure LedI (M : Kp) (n : Str) (fs ws : List Str) : Prop where
  nd : fs.Nodup
  fr : ∀ x ∈ fs, Reach M n x
  wr : ∀ x ∈ ws, Reach M n x
  u0 : ∀ y ∈ used M n, y ∈ fs ∨ y ∈ ws
  u1 : ∀ x ∈ fs, ∀ y ∈ used M x, y ∈ fs ∨ y ∈ ws
  sz : ((keys M).length - fs.length) * 20 + ws.length ≤ 700
theorem LedI.start {M : Kp} (g : Good M) (n : Str) : LedI M n [] (used M n) := by
  refine ⟨.nil, (fun _ h => nomatch h), fun x h => .one h, fun y h => .inr h, (fun _ h => nomatch h), ?_⟩
  have h1 := used_len g n
  have h2 := g.len
  have h3 := keys_len (M := M)
  simp only [List.length_nil]
  omega
theorem LedI.done {M : Kp} {n : Str} {fs : List Str} (h : LedI M n fs []) (x : Str) : x ∈ fs ↔ x ∈ ledL M n := by
  rw [ledL_mem]
  refine ⟨h.fr x, fun r => r.closed (fun y hy => (h.u0 y hy).resolve_right (fun z => nomatch z)) fun y hy z hz => (h.u1 y hy z hz).resolve_right (fun z => nomatch z)⟩
theorem LedI.old {M : Kp} {n x : Str} {fs ws : List Str} (h : LedI M n fs (ws ++ [x])) (hx : x ∈ fs) : LedI M n fs ws := by
  refine ⟨h.nd, h.fr, fun y hy => h.wr y (List.mem_append_left _ hy), fun y hy => ?_, fun z hz y hy => ?_, ?_⟩
  · rcases h.u0 y hy with k | k
    · exact .inl k
    · rcases List.mem_append.mp k with k | k
      · exact .inr k
      · exact .inl (by rw [List.mem_singleton.mp k]; exact hx)
  · rcases h.u1 z hz y hy with k | k
    · exact .inl k
    · rcases List.mem_append.mp k with k | k
      · exact .inr k
      · exact .inl (by rw [List.mem_singleton.mp k]; exact hx)
  · have := h.sz
    rw [List.length_append, List.length_singleton] at this
    omega
theorem LedI.room {M : Kp} {n x : Str} {fs ws : List Str} (h : LedI M n fs (ws ++ [x])) (hx : x ∉ fs) : fs.length < (keys M).length := by
  have := sub_len (l := x :: fs) (m := keys M) (List.nodup_cons.mpr ⟨hx, h.nd⟩) fun y hy => by
    rcases List.mem_cons.mp hy with rfl | hy
    · exact (h.wr y (by simp)).keys
    · exact (h.fr y hy).keys
  simp only [List.length_cons] at this
  omega
theorem LedI.new {M : Kp} {n x : Str} {fs ws : List Str} (g : Good M) (h : LedI M n fs (ws ++ [x])) (hx : x ∉ fs) : LedI M n (fs ++ [x]) (ws ++ used M x) := by
  have hr := h.wr x (by simp)
  have hl := h.room hx
  have hu := used_len g x
  refine ⟨?_, fun y hy => ?_, fun y hy => ?_, fun y hy => ?_, fun z hz y hy => ?_, ?_⟩
  · rw [List.nodup_append]
    exact ⟨h.nd, by simp, fun a ha b hb e => hx (by rw [← List.mem_singleton.mp hb, ← e]; exact ha)⟩
  · rcases List.mem_append.mp hy with k | k
    · exact h.fr y k
    · rw [List.mem_singleton.mp k]
      exact hr
  · rcases List.mem_append.mp hy with k | k
    · exact h.wr y (List.mem_append_left _ k)
    · exact hr.snoc k
  · rcases h.u0 y hy with k | k
    · exact .inl (List.mem_append_left _ k)
    · rcases List.mem_append.mp k with k | k
      · exact .inr (List.mem_append_left _ k)
      · exact .inl (List.mem_append_right _ k)
  · rcases List.mem_append.mp hz with k | k
    · rcases h.u1 z k y hy with k | k
      · exact .inl (List.mem_append_left _ k)
      · rcases List.mem_append.mp k with k | k
        · exact .inr (List.mem_append_left _ k)
        · exact .inl (List.mem_append_right _ k)
    · rw [List.mem_singleton.mp k] at hy
      exact .inr (List.mem_append_right _ hy)
  · have := h.sz
    simp only [List.length_append, List.length_singleton] at this ⊢
    omega
section
variable {P : Program} {w : World} {K : PySem.W.Frag} {mg : Str → Option Value} {base : Heap} {f fR fN fS fI fF fP : Addr}
theorem sc_led : FnScope ["self", "name", "found", "waiting", "other"] ["self", "name"] (defScope (mem 27 16)) := mkScope
def spLed (K : PySem.W.Frag) : Sp := fun vs H Q _ => ∃ a pl M c n, vs = [.ref a, .str n] ∧ DeskAt K H M c a pl ∧ n ∈ keys M ∧ ∀ (l : Addr) (fs : List Str) (H' : Hp), Same H H' → H l = none → H' l = some (.lst (fs.map .str)) → fs.Nodup → (∀ x, x ∈ fs ↔ x ∈ ledL M n) → Q (.ref l) H'
theorem hm_led (D : DeskTx K mg) (m_used : HasM P w K mg base 5 (KC K) "used" (He.ma K (KC K) "used") ["self", "name"] (spUsed K)) : HasM P w K mg base 6 (KC K) "led" (He.ma K (KC K) "led") ["self", "name"] (spLed K) := by
  refine ⟨?_, D.c, D.m_led, D.d_led.bindsN fun _ _ _ _ _ _ us hl => match us, hl with | [_, _], _ => rfl⟩
  refine D.d_led.ok sc_led (fun vs H Q E ⟨_, _, _, _, _, e, _⟩ => by rw [e] <;> rfl) (fun cdv A outer s H vs Q E hr ⟨a, pl, M, c, n, ev, hd, hn, hQ⟩ => ⟨_, PSs.nox (pss_cons (ps_set (i := 2) sc_led.nd rfl (.inl rfl) (pe_lst pa_nil)) (pss_cons (ps_set (i := 3) sc_led.nd rfl (.inl rfl) (pe_hm m_used (hr.mono (by omega)) (pv 0) (pa_cons (pv 1) pa_nil))) (pss_cons (ps_while PassesOwn.never (pt_cmpR (neD K rfl (units64 hr)) (pv 3) (pe_lst pa_nil) (nomark _)) (pss_cons (ps_set (i := 4) sc_led.nd rfl (.inl rfl) (pe_bm0 PySem.F.plainAttrs_list PySem.F.slot_list_pop PySem.F.type_list_pop mt_pop (pv 3))) (pss_one (ps_if (pt_cmpR (ninq K) (pv 4) (pv 2) rfl) (pss_cons (ps_expr (pe_bm PySem.F.plainAttrs_list PySem.F.slot_list_append PySem.F.type_list_append mt_append (pv 2) (pa_cons (pv 4) pa_nil))) (pss_one (ps_aug (i := 3) sc_led.nd rfl (.inl rfl) (pe_hm m_used (hr.mono (by omega)) (pv 0) (pa_cons (pv 4) pa_nil)) iop_ext))) pss_nil)))) (pss_one (ps_ret (pv 2)))))), ?_⟩)
  subst ev
  have G := hd.good
  refine ⟨by rw [sizeLine_eq]; exact Nat.zero_le _, fun F hF => ?_⟩
  have s1 := Same.upd (o := .lst []) hF
  obtain ⟨dx, dk, ws, xs, h1, h2, h3, h4, h5⟩ := hd.at_
  obtain ⟨f, hf⟩ := lookup_some.mpr hn
  refine ⟨_, rfl, a, dx, _, rfl, s1 _ _ h1, rfl, _, rfl, a, pl, M, c, n, f, rfl, hd.same s1, hf, fun Wt H1 s2 hW e1 => ?_⟩
  have s12 := s1.trans s2
  have hW0 := s1.free hW
  have hFW : F ≠ Wt := fun e => by rw [← e, upd_same] at hW; cases hW
  refine ⟨fun m σ H2 => ∃ fs us o, σ = [some (.ref a), some (.str n), some (.ref F), some (.ref Wt), o] ∧ Same H H2 ∧ H2 F = some (.lst (fs.map .str)) ∧ H2 Wt = some (.lst (us.map .str)) ∧ LedI M n fs us ∧ m = ((keys M).length - fs.length) * 20 + us.length, ⟨_, [], used M n, none, rfl, s12, s2 _ _ upd_same, e1, .start G n, rfl⟩, ?_⟩
  rintro m σ H2 ⟨fs, us, o, rfl, s3, eF, eW, I, rfl⟩
  have okw : ∀ x ∈ us, PyData.strOk x = true := fun x hx => nameOk_str (G.names x (I.wr x hx).keys)
  refine ⟨_, rfl, by rw [sizeLine_eq]; exact Nat.zero_le _, fun p hp => ?_⟩
  have s4 := Same.upd (o := .lst []) hp
  refine ne_nil (sqL_of (s4 _ _ eW)) (sqL_of upd_same) okw ⟨_, rfl, ?_⟩
  have s34 := s3.trans s4
  rcases nil_or us with rfl | ⟨vs, x, rfl⟩
  · refine ifF rfl ?_
    exact ⟨_, rfl, hQ F fs _ s34 hF (s4 _ _ eF) I.nd I.done⟩
  · have hne : (!decide (vs ++ [x] = [])) = true := by simp
    refine ifT hne ?_
    refine ⟨fun σ' H' => ∃ m', m' < ((keys M).length - fs.length) * 20 + (vs ++ [x]).length ∧ ∃ (fs us : List Str) (o : Option V), σ' = [some (.ref a), some (.str n), some (.ref F), some (.ref Wt), o] ∧ Same H H' ∧ H' F = some (.lst (fs.map .str)) ∧ H' Wt = some (.lst (us.map .str)) ∧ LedI M n fs us ∧ m' = ((keys M).length - fs.length) * 20 + us.length, fun σ' H' h => h, ?_⟩
    refine ⟨_, rfl, .inl ⟨rfl, _, sqL_of (s4 _ _ eW)⟩, Wt, _, .str x, rfl, rfl, s4 _ _ eW, by simp, ?_⟩
    have s5 : Same H (upd (upd H2 p (.lst [])) Wt (.lst (((vs ++ [x]).map V.str).dropLast))) := s34.over hW0
    have eW5 : (upd (upd H2 p (.lst [])) Wt (.lst (((vs ++ [x]).map V.str).dropLast))) Wt = some (.lst (vs.map .str)) := by rw [upd_same]; simp
    have eF5 : (upd (upd H2 p (.lst [])) Wt (.lst (((vs ++ [x]).map V.str).dropLast))) F = some (.lst (fs.map .str)) := by rw [upd_ne hFW]; exact s4 _ _ eF
    generalize (upd (upd H2 p (.lst [])) Wt (.lst (((vs ++ [x]).map V.str).dropLast))) = H5 at s5 eW5 eF5 ⊢
    refine ⟨_, rfl, _, rfl, F, _, rfl, .inl (sqL_of eF5), rfl, flat_strs fs, _, rfl, ?_⟩
    rw [inV_str]
    by_cases hx : x ∈ fs
    · refine ifF (by simp [hx]) ?_
      exact ⟨_, by simp, fs, vs, _, rfl, s5, eF5, eW5, I.old hx, rfl⟩
    · refine ifT (by simp [hx]) ?_
      have hl := I.room hx
      have hk := keys_len (M := M)
      have hg := G.len
      refine ⟨_, rfl, .inl ⟨rfl, _, sqL_of eF5⟩, _, rfl, F, _, .str x, rfl, rfl, eF5, by rw [List.length_map, sizeLine_eq]; omega, ?_⟩
      have s6 : Same H (upd H5 F (.lst (fs.map V.str ++ [.str x]))) := s5.over hF
      have eW6 : (upd H5 F (.lst (fs.map V.str ++ [.str x]))) Wt = some (.lst (vs.map .str)) := by rw [upd_ne (Ne.symm hFW)]; exact eW5
      obtain ⟨f2, hf2⟩ := lookup_some.mpr (I.wr x (by simp)).keys
      refine ⟨_, rfl, _, rfl, a, dx, _, rfl, s6 _ _ h1, rfl, _, rfl, a, pl, M, c, x, f2, rfl, hd.same s6, hf2, fun L H7 s7 hL e7 => ?_⟩
      have hsz := I.sz
      have hu := used_len G x
      rw [List.length_append, List.length_singleton] at hsz
      refine ⟨Wt, L, _, _, rfl, rfl, s7 _ _ eW6, e7, by rw [List.length_map, List.length_map, sizeLine_eq]; omega, ?_⟩
      have s8 : Same H (upd H7 Wt (.lst (vs.map V.str ++ (used M x).map V.str))) := (s6.trans s7).over hW0
      refine ⟨_, ?_, fs ++ [x], vs ++ used M x, _, rfl, s8, ?_, ?_, I.new G hx, rfl⟩
      · simp only [List.length_append, List.length_singleton]
        omega
      · rw [upd_ne hFW]
        have := s7 _ _ (upd_same (H := H5) (a := F) (o := .lst (fs.map V.str ++ [.str x])))
        rw [this]
        simp
      · rw [upd_same]
        simp
end
end Q41
set_option maxRecDepth 100000
set_option maxHeartbeats 4000000
/-! Desk, 5: filled_in. -/
namespace Q41
open PySem PySem.Spec PyProof.Rows L2
/-- a dict comprehension over it: Pv by the turn and the heap (the new dict at D within) -/
theorem dc_it {J : It} {n : Nat} {G : Hp → Prop} {Y : Nat → Hp → V → Hp → Prop} (w : Walk J n G Y) {g : TG} {tt : TT} {tk tv : TE} {vs : List Nat} {σ : L2.St} {H1 : Hp} {D : Addr} {Qd : Hp → Prop} (Pv : Nat → Hp → Prop) (h0 : Pv 0 (upd H1 D (.dK []))) (hG : ∀ i H, i ≤ n → Pv i H → G H)
    (hs : ∀ i x H H', i < n → Pv i H → Y i H x H' → g x (wipe σ vs) H' fun σ2 H2 => wipe σ2 vs = wipe σ vs ∧ tt σ2 H2 fun b H3 =>
      if b = true then tk σ2 H3 fun y H4 => tv σ2 H4 fun z H5 => ∃ kvs k, y = kV k ∧ H5 D = some (.dK kvs) ∧ kvs.length < sizeLine ∧ Pv (i + 1) (upd H5 D (.dK (putK kvs k z))) else Pv (i + 1) H3) (hd : ∀ H, Pv n H → Qd H) :
    ∃ W : Nat → Nat → Hp → Prop, (∃ m, W 0 m (upd H1 D (.dK []))) ∧ ∀ i m H, W i m H →
      (J.stop i H ∧ Qd H) ∨ (J.go i H ∧ ∃ Nx : Hp → Prop, (∀ H', Nx H' → ∃ m', m' < m ∧ W (i + 1) m' H') ∧ ∀ x H', J.yld i H x H' → g x (wipe σ vs) H' fun σ2 H2 => wipe σ2 vs = wipe σ vs ∧ tt σ2 H2 fun b H3 =>
        if b = true then tk σ2 H3 fun y H4 => tv σ2 H4 fun z H5 => ∃ kvs k, y = kV k ∧ H5 D = some (.dK kvs) ∧ kvs.length < sizeLine ∧ Nx (upd H5 D (.dK (putK kvs k z))) else Nx H3) := by
  refine ⟨fun i m H => m = n - i ∧ i ≤ n ∧ Pv i H, ⟨n, by simp, Nat.zero_le _, h0⟩, ?_⟩
  rintro i m H ⟨rfl, hi, p⟩
  have q := hG i H hi p
  by_cases hlt : i < n
  · refine .inr ⟨w.goes i H hlt q, Pv (i + 1), fun H' p' => ⟨n - (i + 1), by omega, rfl, hlt, p'⟩, fun x H' y => hs i x H H' hlt p (w.yields i H x H' hlt q y)⟩
  · have e : i = n := by omega
    subst e
    exact .inl ⟨w.stops H q, hd H p⟩
theorem DocAt.dK {K : PySem.W.Frag} {H : Hp} {l : Addr} {us : List (Key × V)} {o : HO} (hl : H l = some (.dK us)) {f : Fm} {v : V} (h : DocAt K H f v) : DocAt K (upd H l o) f v := by
  obtain ⟨a, dx, s, h1, h2, h3⟩ := h
  have ne : a ≠ l := fun z => by rw [z, hl] at h2; cases h2
  exact ⟨a, dx, s, h1, by rw [upd_ne ne]; exact h2, h3.mono (sqT_dK hl)⟩
theorem DocsAt.dK {K : PySem.W.Frag} {H : Hp} {l : Addr} {us : List (Key × V)} {o : HO} (hl : H l = some (.dK us)) : ∀ {ws : List (Str × V)} {gs : Kp}, DocsAt K H ws gs → DocsAt K (upd H l o) ws gs
  | [], [], _ => trivial
  | (_, _) :: _, (_, _) :: _, ⟨h1, h2, h3⟩ => ⟨h1, h2.dK hl, DocsAt.dK hl h3⟩
theorem DocsAt.snoc {K : PySem.W.Frag} {H : Hp} {n : Str} {v : V} {f : Fm} (hv : DocAt K H f v) : ∀ {ws : List (Str × V)} {gs : Kp}, DocsAt K H ws gs → DocsAt K H (ws ++ [(n, v)]) (gs ++ [(n, f)])
  | [], [], _ => ⟨rfl, hv, trivial⟩
  | (_, _) :: _, (_, _) :: _, ⟨h1, h2, h3⟩ => ⟨h1, h2, DocsAt.snoc hv h3⟩
def formOf (M : Kp) (n : Str) : Fm := (M.lookup n).getD (.hol n)
theorem formOf_eq {M : Kp} {n : Str} {f : Fm} (h : M.lookup n = some f) : formOf M n = f := by rw [formOf, h] <;> rfl
/-- what the used names are filled with -/
def fillings (M : Kp) (k : Nat) (n : Str) : Kp := (used M n).map fun h => (h, lf M k (formOf M h))
theorem fillings_keys (M : Kp) (k : Nat) (n : Str) : keys (fillings M k n) = used M n := by
  unfold keys fillings
  rw [List.map_map]
  exact List.map_id _
theorem lookup_map {α : Type} (g : Str → α) (l : List Str) (n : Str) : (l.map fun h => (h, g h)).lookup n = if n ∈ l then some (g n) else none := by
  induction l with
  | nil => rfl
  | cons x l ih =>
    rw [List.map_cons, List.lookup_cons]
    by_cases e : n = x
    · subst e
      simp
    · have e2 : (n == x) = false := by simpa using e
      rw [e2]
      dsimp only
      rw [ih]
      by_cases h : n ∈ l
      · rw [if_pos h, if_pos (List.mem_cons_of_mem _ h)]
      · rw [if_neg h, if_neg (by simp [e, h])]
theorem fill_lf {M : Kp} {k : Nat} {n : Str} {f : Fm} (e : M.lookup n = some f) : (f.fill fun h => (fillings M k n).lookup h) = lf M (k + 1) f := by
  rw [lf]
  refine Fm.fill_congr f fun h hh => ?_
  unfold fillings
  rw [lookup_map]
  by_cases hk : h ∈ keys M
  · obtain ⟨f2, e2⟩ := lookup_some.mpr hk
    rw [if_pos ((used_mem e).mpr ⟨hh, hk⟩), e2, formOf_eq e2]
    rfl
  · rw [if_neg (fun z => hk ((used_mem e).mp z).2), lookup_none hk]
    rfl
section
variable {P : Program} {w : World} {K : PySem.W.Frag} {mg : Str → Option Value} {base : Heap} {f fR fN fS fI fF fP fL : Addr}
theorem sc_filled_in : FnScope ["self", "name", "parts", "doc", "other"] ["self", "name"] (defScope (mem 27 18)) := mkScope
def spFilledIn (K : PySem.W.Frag) (k : Nat) : Sp := fun vs H Q _ => ∃ a pl M c n f, vs = [.ref a, .str n] ∧ DeskAt K H M c a pl ∧ M.lookup n = some f ∧ Ht M k n ∧ ∀ r H', Same H H' → DocAt K H' (lf M k f) r → Q r H'
theorem hm_filled_in (D : DeskTx K mg) (m_used : HasM P w K mg base 5 (KC K) "used" (He.ma K (KC K) "used") ["self", "name"] (spUsed K)) (h_filled : FnKw P w K mg base (L2.CX P w) 8 fL (spFilled K 4)) (g_filled : mg "filled" = some (.ref fL)) (kp_filled : PySem.W.keepIn K (.ref fL) = true) :
    ∀ k, HasM P w K mg base (9 + k) (KC K) "filled_in" (He.ma K (KC K) "filled_in") ["self", "name"] (spFilledIn K k) := by
  intro k
  induction k with
  | zero => exact ⟨⟨fun vs H Q E ⟨_, _, _, _, _, _, _, _, _, h, _⟩ => h.elim, fun A outer s H args us vs Q E _ _ _ _ ⟨_, _, _, _, _, _, _, _, _, h, _⟩ => h.elim⟩, D.c, D.m_filled_in, D.d_filled_in.bindsN fun _ _ _ _ _ _ us hl => match us, hl with | [_, _], _ => rfl⟩
  | succ k IH =>
    refine ⟨?_, D.c, D.m_filled_in, D.d_filled_in.bindsN fun _ _ _ _ _ _ us hl => match us, hl with | [_, _], _ => rfl⟩
    refine D.d_filled_in.ok (k := 9 + k) sc_filled_in (fun vs H Q E ⟨_, _, _, _, _, _, e, _⟩ => by rw [e] <;> rfl) (fun cdv A outer s H vs Q E hr ⟨a, pl, M, c, n, f, ev, hd, hf, hh, hQ⟩ => ⟨_, PSs.nox (pss_cons (ps_setDc (i := 2) (own := [("other", 4)]) rfl sc_filled_in.nd rfl rfl (sw_trueD rfl rfl rfl rfl) (pil K (pe_hm m_used (hr.mono (by omega)) (pv 0) (pa_cons (pv 1) pa_nil))) (mkBlk (N := ["self", "name", "parts", "doc", "other"]) (sc := defScope (mem 27 18))) (fun _ _ _ _ _ => pg_name sc_filled_in.nd (i := 4) rfl (.inl rfl)) (fun _ _ _ _ _ => pts_nil) (fun _ _ _ _ _ => (pv 4)) (fun _ _ _ _ _ => (pe_hm IH (hr.mono (by omega)) (pv 0) (pa_cons (pv 4) pa_nil)))) (pss_cons (ps_set (i := 3) sc_filled_in.nd rfl (.inl rfl) (pe_dget (hu_of hr) (fld K (pv 0)) (pv 1) (by intro _ _; rfl))) (pss_one (ps_ret (pe_callKw (t := tNil) h_filled (hr.mono (by omega)) kp_filled rfl g_filled (by exact passL) (pv 3) (pv 2)))))), ?_⟩)
    subst ev
    have G := hd.good
    obtain ⟨dx, dk, ws, xs, h1, h2, h3, h4, h5⟩ := hd.at_
    refine ⟨_, rfl, a, dx, _, rfl, h1, rfl, _, rfl, a, pl, M, c, n, f, rfl, hd, hf, fun L H1 s1 hL e1 => ?_⟩
    refine ⟨L, rfl, ⟨_, sqL_of e1⟩, fun p hp => ?_⟩
    have hul := used_len G n
    refine dc_it (walk_list (xs := (used M n).map .str)) (fun i H => Same H1 H ∧ ∃ ws, H p = some (.dK (asKeysV ws)) ∧ DocsAt K H ws ((fillings M k n).take i)) ⟨Same.upd hp, [], upd_same, trivial⟩ (fun i H2 _ h => sqL_of (h.1 _ _ e1)) (fun i x H2 H3 hi ⟨s2, us, ep, du⟩ y => ?_) (fun H2 ⟨s2, us, ep, du⟩ => ?_)
    · obtain ⟨rfl, hx⟩ := yat _ _ _ _ y
      rw [List.length_map] at hi
      rw [List.getElem?_map, List.getElem?_eq_getElem hi] at hx
      injection hx with hx
      subst hx
      have hm : (used M n)[i] ∈ used M n := List.getElem_mem hi
      obtain ⟨f2, hf2⟩ := lookup_some.mpr (used_keys hm)
      have s12 := s1.trans s2
      refine ⟨rfl, .str (used M n)[i], rfl, .ref a, rfl, a, dx, _, rfl, s12 _ _ h1, rfl, _, rfl, a, pl, M, c, _, f2, rfl, hd.same s12, hf2, hh _ hm, fun r H4 s4 hr4 => ?_⟩
      have hl : us.length = i := by
        have := congrArg List.length du.keys
        rw [List.length_map, keys_len, List.length_take] at this
        have e2 : (fillings M k n).length = (used M n).length := by simp [fillings]
        omega
      refine ⟨_, .inr (used M n)[i], rfl, s4 _ _ ep, by rw [sizeLine_eq]; simp [asKeysV]; omega, (s2.trans s4).over hp, us ++ [((used M n)[i], r)], ?_, ?_⟩
      · have hn : (used M n)[i] ∉ us.map (·.1) := by
          rw [du.keys, keys, List.map_take]
          show _ ∉ List.take i (keys (fillings M k n))
          rw [fillings_keys]
          intro hc
          obtain ⟨j, hj, e⟩ := List.getElem_of_mem hc
          have hj2 : j < i := by rw [List.length_take] at hj; omega
          rw [List.getElem_take] at e
          exact absurd ((List.getElem_inj (used_ok M n).2).mp e) (by omega)
        rw [upd_same, putA_asK, putA_new hn]
      · have e3 : (fillings M k n).take (i + 1) = (fillings M k n).take i ++ [((used M n)[i], lf M k f2)] := by
          rw [List.take_add_one]
          unfold fillings
          rw [List.getElem?_map, List.getElem?_eq_getElem hi, Option.map_some, formOf_eq hf2]
          rfl
        rw [e3]
        exact DocsAt.snoc (hr4.dK (s4 _ _ ep)) ((du.same s4).dK (s4 _ _ ep))
    · rw [List.take_of_length_le (by simp [fillings])] at du
      have s12 := s1.trans s2
      obtain ⟨v, hg, hv⟩ := desk_get (Same.rd s12 h2) (h3.same s12) hf
      refine ⟨_, rfl, a, _, dx, _, _, rfl, s12 _ _ h1, D.c, D.n_kept, rfl, _, rfl, dk, v, rfl, hg, ?_⟩
      refine ⟨_, rfl, fun d hdn => ⟨_, rfl, p, us, rfl, .inl (by rw [upd_ne (ne_of_none ep hdn)]; exact ep), upd_same, ne_of_none ep hdn, ?_⟩⟩
      have s3 : Same H2 (upd (upd H2 d (.dK [])) d (.dK (asKeysV us))) := (Same.upd hdn).over hdn
      have hdp : f.depth ≤ 3 := G.dp _ (mem_of_get hf)
      refine ⟨f, fillings M k n, hv.same s3, du.same s3, by rw [fillings_keys]; exact (used_ok M n).2, by simp [fillings]; omega, fun x hx => G.names x ?_, by omega, fun r H5 s5 hr5 => ?_⟩
      · rw [fillings_keys] at hx
        exact used_keys hx
      · rw [fill_lf hf] at hr5
        exact hQ r H5 ((s12.trans s3).trans s5) hr5
end
end Q41
set_option maxRecDepth 100000
set_option maxHeartbeats 4000000
/-! Desk, 6: what raises. -/
namespace Q41
open PySem PySem.Spec PyProof.Rows L2
abbrev NC (K : PySem.W.Frag) : Addr := He.ga K "NoSuchName"
abbrev CC (K : PySem.W.Frag) : Addr := He.ga K "Circular"
/-- what is known of an error's class: its field x, its __init__ at st -/
structure ErrTx (K : PySem.W.Frag) (mg : Str → Option Value) (n x : Str) (st : Stmt) : Prop where
  g : mg n = some (.ref (He.ga K n))
  T : OexC K (He.ga K n)
  iC : PySem.W.findIn K (.ref (He.ga K n)) "__init__" = some (some (.ref (He.ma K (He.ga K n) "__init__")))
  tI : PySem.W.typeIn K (.ref (He.ma K (He.ga K n) "__init__")) = some (.type "function")
  nf : PySem.W.findIn K (.ref (He.ga K n)) x = some none
  d : DefAt K "__init__" (n ++ ".__init__") st [.non] (He.ma K (He.ga K n) "__init__")
section
variable {P : Program} {w : World} {K : PySem.W.Frag} {mg : Str → Option Value} {base : Heap} {f fR fN fS fI fF fP fL : Addr}
theorem _root_.L2.Same.exc {H1 : Hp} {a d C : Addr} {o1 : HO} {fs gs : List (Str × V)} (ha : H1 a = none) (hd : H1 d = none) : Same H1 (upd (del (upd (upd (upd H1 a o1) d (exd d fs)) a (exo a C (some d))) a) d (.xd gs)) := fun b o e => by
  rw [upd_ne (ne_of_none e hd), del_ne (ne_of_none e ha), upd_ne (ne_of_none e ha), upd_ne (ne_of_none e hd), upd_ne (ne_of_none e ha)]
  exact e
def spErr (K : PySem.W.Frag) (n x : Str) : Sp := fun vs H Q _ => ∃ a v, vs = [.ref a, v] ∧ H a = some (exo a (He.ga K n) none) ∧ ∀ dx, H dx = none → dx ≠ a → Q .non (upd (upd H dx (exd dx [(x, v)])) a (exo a (He.ga K n) (some dx)))
theorem sc_nsn : FnScope ["self", "name"] ["self", "name"] (defScope (mem 7 0)) := mkScope
theorem ok_nsn (D : ErrTx K mg "NoSuchName" "name" (mem 7 0)) : FnOk P w K mg base (L2.CX P w) 1 (He.ma K (NC K) "__init__") (fdOf K (He.ma K (NC K) "__init__")) ["self", "name"] (spErr K "NoSuchName" "name") := by
  refine D.d.ok sc_nsn (fun vs H Q E ⟨_, _, e, _⟩ => by rw [e] <;> rfl) (fun cdv A outer s H vs Q E hr ⟨a, v, ev, ha, hQ⟩ => ⟨_, PSs.nox (pss_one (ps_ost (pv 0) (pv 1))), ?_⟩)
  subst ev
  exact ⟨_, rfl, _, rfl, a, _, rfl, D.T, D.nf, .inl ⟨ha, fun dx h1 h2 => hQ dx h1 h2⟩⟩
theorem sc_cir : FnScope ["self", "ring"] ["self", "ring"] (defScope (mem 8 0)) := mkScope
theorem ok_cir (D : ErrTx K mg "Circular" "ring" (mem 8 0)) : FnOk P w K mg base (L2.CX P w) 1 (He.ma K (CC K) "__init__") (fdOf K (He.ma K (CC K) "__init__")) ["self", "ring"] (spErr K "Circular" "ring") := by
  refine D.d.ok sc_cir (fun vs H Q E ⟨_, _, e, _⟩ => by rw [e] <;> rfl) (fun cdv A outer s H vs Q E hr ⟨a, v, ev, ha, hQ⟩ => ⟨_, PSs.nox (pss_one (ps_ost (pv 0) (pv 1))), ?_⟩)
  subst ev
  exact ⟨_, rfl, _, rfl, a, _, rfl, D.T, D.nf, .inl ⟨ha, fun dx h1 h2 => hQ dx h1 h2⟩⟩
theorem bn_nsn (D : ErrTx K mg "NoSuchName" "name" (mem 7 0)) : Binds K (fdOf K (He.ma K (NC K) "__init__")) ["self", "name"] [] := by
  obtain ⟨ds, vd, b⟩ := D.d.binds1 (ps := ["self", "name"]) 2 1 (by simp) rfl fun _ _ _ _ _ _ _ us its h1 h2 => match us, its, h1, h2 with | [_, _], [_], _, _ => ⟨_, rfl, rfl⟩
  cases vd
  exact b
theorem bn_cir (D : ErrTx K mg "Circular" "ring" (mem 8 0)) : Binds K (fdOf K (He.ma K (CC K) "__init__")) ["self", "ring"] [] := by
  obtain ⟨ds, vd, b⟩ := D.d.binds1 (ps := ["self", "ring"]) 2 1 (by simp) rfl fun _ _ _ _ _ _ _ us its h1 h2 => match us, its, h1, h2 with | [_, _], [_], _, _ => ⟨_, rfl, rfl⟩
  cases vd
  exact b
/-- an error is made with one field -/
theorem mk_err {n x : Str} {H1 : Hp} {v : V} {Q : XK} (hQ : ∀ d H', Same H1 H' → H' d = some (.xd [(x, v)]) → Q (.ref (He.ga K n)) (some d) H') : ([v] : List V).length ≤ 1000 ∧ ∀ a, H1 a = none → spErr K n x (.ref a :: ([v] ++ [])) (upd H1 a (exo a (He.ga K n) none))
    (fun v H2 => v = .non ∧ ∃ (d : Addr) (fs : List (Str × V)), H2 a = some (exo a (He.ga K n) (some d)) ∧ H2 d = some (exd d fs) ∧ H1 d = none ∧ Q (.ref (He.ga K n)) (some d) (upd (del H2 a) d (.xd fs))) (fun _ _ _ => False) := by
  refine ⟨by simp, fun a ha => ⟨a, v, rfl, upd_same, fun dx hd hne => ⟨rfl, dx, _, upd_same, by rw [upd_ne hne, upd_same], ?_, ?_⟩⟩⟩
  · rwa [upd_ne hne] at hd
  · rw [upd_ne hne] at hd
    exact hQ dx _ (Same.exc ha hd) upd_same
section
variable {X : Cx} {x : Str} {e : Expr} {ta : TA} {p pos : Pos}
theorem pmk_nsn (D : ErrTx X.K X.mg "NoSuchName" "name" (mem 7 0)) (hr : Room 2 X.A) (hg : Gl X "NoSuchName") (ha : PA X [e] ta) (he : starEach [e] X.env = (false, eval e X.env) :: starEach [] X.env := by rfl) (hpl : (backTo pos (starEach [] X.env)).any (·.1) = false := by rfl) :
    PMk X (.Call (.Name "NoSuchName" p) [e] [] pos) (tMkO (NC X.K) (spErr X.K "NoSuchName" "name") [] ta) :=
  pmk_oex (CX := L2.CX X.prog X.w) D.T D.iC D.tI (ok_nsn D) hr (bn_nsn D) .nil passL hg D.g ha (by decide) he hpl
theorem pmk_cir (D : ErrTx X.K X.mg "Circular" "ring" (mem 8 0)) (hr : Room 2 X.A) (hg : Gl X "Circular") (ha : PA X [e] ta) (he : starEach [e] X.env = (false, eval e X.env) :: starEach [] X.env := by rfl) (hpl : (backTo pos (starEach [] X.env)).any (·.1) = false := by rfl) :
    PMk X (.Call (.Name "Circular" p) [e] [] pos) (tMkO (CC X.K) (spErr X.K "Circular" "ring") [] ta) :=
  pmk_oex (CX := L2.CX X.prog X.w) D.T D.iC D.tI (ok_cir D) hr (bn_cir D) .nil passL hg D.g ha (by decide) he hpl
end
/-- what a thing is as a name -/
def NameQ (K : PySem.W.Frag) (H : Hp) (M : Kp) (x : V) (b : Bool) : Prop := (∃ z : Str, x = .str z ∧ z.cps.size < 1000 ∧ b = (nameOk z && decide (z ∈ keys M))) ∨ ∃ t, TyX K H x t ∧ PySem.W.kitOne K t (.type "str") = some false ∧ b = false
def spRequire (K : PySem.W.Frag) : Sp := fun vs H Q E => ∃ a pl M c x b, vs = [.ref a, x] ∧ DeskAt K H M c a pl ∧ NameQ K H M x b ∧ (b = true → ∀ H', Same H H' → Q .non H') ∧ (b = false → ∀ d H', Same H H' → H' d = some (.xd [("name", x)]) → E (.ref (NC K)) (some d) H')
theorem sc_require : FnScope ["self", "name"] ["self", "name"] (defScope (mem 27 14)) := mkScope
theorem hm_require (D : DeskTx K mg) (N : ErrTx K mg "NoSuchName" "name" (mem 7 0)) (h_is_name : Has P w K mg base 1 "is_name" fN ["thing"] (spIsName K)) : HasM P w K mg base 3 (KC K) "require" (He.ma K (KC K) "require") ["self", "name"] (spRequire K) := by
  refine ⟨?_, D.c, D.m_require, D.d_require.bindsN fun _ _ _ _ _ _ us hl => match us, hl with | [_, _], _ => rfl⟩
  refine D.d_require.ok sc_require (fun vs H Q E ⟨_, _, _, _, _, _, e, _⟩ => by rw [e] <;> rfl) (fun cdv A outer s H vs Q E hr ⟨a, pl, M, c, x, b, ev, hd, hx, hT, hF⟩ => ⟨_, (pss_one (ps_if (PW.pt (pw_or (pt_not (pt_val (pe_hc h_is_name (hr.mono (by omega)) rfl (pa_cons (pv 1) pa_nil)))) (pw_or1 (pt_cmp (pc_dnotin (hu_of hr) (pv 1) (fld K (pv 0))))))) (pss_one (ps_raise rfl (W := fun cls d _ H => E cls d H) (takes_of rfl rfl rfl rfl) (pmk_nsn N (hr.mono (by omega)) rfl (pa_cons (pv 1) pa_nil)))) pss_nil)), ?_⟩)
  subst ev
  obtain ⟨dx, dk, ws, xs, h1, h2, h3, h4, h5⟩ := hd.at_
  rcases hx with ⟨z, rfl, hz, rfl⟩ | ⟨t, ty, kt, rfl⟩
  · refine ⟨_, rfl, .inl ⟨z, rfl, hz, fun H1 s1 => ⟨_, rfl, ?_⟩⟩⟩
    cases hn : nameOk z with
    | false =>
      refine ifT rfl ?_
      exact ⟨_, rfl, mk_err fun d H' s2 hd => hF (by rw [hn] <;> rfl) d H' (s1.trans s2) hd⟩
    | true =>
      refine ifF rfl ?_
      obtain ⟨o, ho, eo⟩ := desk_in (Same.rd s1 h2) (h3.same s1) z
      refine ⟨_, rfl, _, rfl, a, _, dx, _, _, rfl, s1 _ _ h1, D.c, D.n_kept, rfl, dk, o, rfl, ho, ?_⟩
      rw [eo]
      refine ⟨_, rfl, ?_⟩
      by_cases hk : z ∈ keys M
      · refine ifF (c := !decide (z ∈ keys M)) (by simp [hk]) ?_
        exact hT (by rw [hn, decide_eq_true hk] <;> rfl) H1 s1
      · refine ifT (c := !decide (z ∈ keys M)) (by simp [hk]) ?_
        exact ⟨_, rfl, mk_err fun d H' s2 hd => hF (by simp [hk]) d H' (s1.trans s2) hd⟩
  · refine ⟨_, rfl, .inr ⟨_, t, rfl, ty, kt, _, rfl, ?_⟩⟩
    refine ifT rfl ?_
    exact ⟨_, rfl, mk_err fun d H' s2 hd => hF rfl d H' s2 hd⟩
def spGetit (K : PySem.W.Frag) : Sp := fun vs H Q E => ∃ a pl M c x b, vs = [.ref a, x] ∧ DeskAt K H M c a pl ∧ NameQ K H M x b ∧ (b = true → ∀ z f v H', x = .str z → M.lookup z = some f → Same H H' → DocAt K H' f v → Q v H') ∧ (b = false → ∀ d H', Same H H' → H' d = some (.xd [("name", x)]) → E (.ref (NC K)) (some d) H')
theorem sc_getit : FnScope ["self", "name"] ["self", "name"] (defScope (mem 27 11)) := mkScope
theorem ok_getit (D : DeskTx K mg) (N : ErrTx K mg "NoSuchName" "name" (mem 7 0)) (h_is_name : Has P w K mg base 1 "is_name" fN ["thing"] (spIsName K)) : FnOk P w K mg base (L2.CX P w) 3 (He.ma K (KC K) "__getitem__") (fdOf K (He.ma K (KC K) "__getitem__")) ["self", "name"] (spGetit K) := by
  refine D.d_get.ok sc_getit (fun vs H Q E ⟨_, _, _, _, _, _, e, _⟩ => by rw [e] <;> rfl) (fun cdv A outer s H vs Q E hr ⟨a, pl, M, c, x, b, ev, hd, hx, hT, hF⟩ => ⟨_, (pss_cons (ps_if (PW.pt (pw_or (pt_not (pt_val (pe_hc h_is_name (hr.mono (by omega)) rfl (pa_cons (pv 1) pa_nil)))) (pw_or1 (pt_cmp (pc_dnotin (hu_of hr) (pv 1) (fld K (pv 0))))))) (pss_one (ps_raise rfl (W := fun cls d _ H => E cls d H) (takes_of rfl rfl rfl rfl) (pmk_nsn N (hr.mono (by omega)) rfl (pa_cons (pv 1) pa_nil)))) pss_nil) (pss_one (ps_ret (pe_dget (hu_of hr) (fld K (pv 0)) (pv 1) (by intro _ _; rfl))))), ?_⟩)
  subst ev
  obtain ⟨dx, dk, ws, xs, h1, h2, h3, h4, h5⟩ := hd.at_
  rcases hx with ⟨z, rfl, hz, rfl⟩ | ⟨t, ty, kt, rfl⟩
  · refine ⟨_, rfl, .inl ⟨z, rfl, hz, fun H1 s1 => ⟨_, rfl, ?_⟩⟩⟩
    cases hn : nameOk z with
    | false =>
      refine ifT rfl ?_
      exact ⟨_, rfl, mk_err fun d H' s2 hd => hF (by rw [hn] <;> rfl) d H' (s1.trans s2) hd⟩
    | true =>
      refine ifF rfl ?_
      obtain ⟨o, ho, eo⟩ := desk_in (Same.rd s1 h2) (h3.same s1) z
      refine ⟨_, rfl, _, rfl, a, _, dx, _, _, rfl, s1 _ _ h1, D.c, D.n_kept, rfl, dk, o, rfl, ho, ?_⟩
      rw [eo]
      refine ⟨_, rfl, ?_⟩
      by_cases hk : z ∈ keys M
      · refine ifF (c := !decide (z ∈ keys M)) (by simp [hk]) ?_
        obtain ⟨f, hf⟩ := lookup_some.mpr hk
        obtain ⟨v, hg, hv⟩ := desk_get (Same.rd s1 h2) (h3.same s1) hf
        exact ⟨_, rfl, a, _, dx, _, _, rfl, s1 _ _ h1, D.c, D.n_kept, rfl, _, rfl, dk, v, rfl, hg, hT (by rw [hn, decide_eq_true hk] <;> rfl) z f v H1 rfl hf s1 hv⟩
      · refine ifT (c := !decide (z ∈ keys M)) (by simp [hk]) ?_
        exact ⟨_, rfl, mk_err fun d H' s2 hd => hF (by simp [hk]) d H' (s1.trans s2) hd⟩
  · refine ⟨_, rfl, .inr ⟨_, t, rfl, ty, kt, _, rfl, ?_⟩⟩
    refine ifT rfl ?_
    exact ⟨_, rfl, mk_err fun d H' s2 hd => hF rfl d H' s2 hd⟩
theorem bn_getit (D : DeskTx K mg) : Binds K (fdOf K (He.ma K (KC K) "__getitem__")) ["self", "name"] [] := D.d_get.bindsN fun _ _ _ _ _ _ us hl => match us, hl with | [_, _], _ => rfl
end
end Q41
set_option maxRecDepth 100000
set_option maxHeartbeats 4000000
/-! Desk, 7: whole. -/
namespace Q41
open PySem PySem.Spec PyProof.Rows L2
theorem _root_.L2.Same.unlock {H0 H' : Hp} {d : Addr} {u : HO} {od : Obj} (h : H0 d = some u) (s : Same (upd H0 d (.frz od u)) H') : H' d = some (.frz od u) ∧ Same H0 (upd H' d u) := by
  refine ⟨s _ _ upd_same, fun b o e => ?_⟩
  by_cases hb : b = d
  · rw [hb, upd_same]
    rw [hb, h] at e
    exact e
  · rw [upd_ne hb]
    exact s _ _ (by rw [upd_ne hb]; exact e)
/-- the circular ones, as the dict keeps them -/
def circL (M : Kp) (n : Str) : List Str := (keys M).filter fun x => decide ((x = n ∨ x ∈ ledL M n) ∧ x ∈ ledL M x)
theorem circL_mem {M : Kp} {n x : Str} : x ∈ circL M n ↔ (x = n ∨ x ∈ ledL M n) ∧ x ∈ ledL M x := by
  unfold circL
  rw [List.mem_filter, decide_eq_true_eq]
  exact ⟨fun h => h.2, fun h => ⟨ledL_keys h.2, h⟩⟩
theorem circL_nil {M : Kp} {n : Str} : circL M n = [] ↔ circ M n = [] := by
  rw [List.eq_nil_iff_forall_not_mem, List.eq_nil_iff_forall_not_mem]
  constructor
  · intro h x hx
    exact h x (circL_mem.mpr (circ_mem.mp hx))
  · intro h x hx
    exact h x (circ_mem.mpr (circL_mem.mp hx))
def inC (M : Kp) (n : Str) (v : V) : Option V := match v with
  | .str z => if (z = n ∨ z ∈ ledL M n) ∧ z ∈ ledL M z then some v else none
  | _ => none
theorem inC_map (M : Kp) (n : Str) : ((keys M).map V.str).filterMap (inC M n) = (circL M n).map V.str := by
  unfold circL
  induction keys M with
  | nil => rfl
  | cons x l ih =>
    rw [List.map_cons, List.filterMap_cons, List.filter_cons, ih]
    by_cases h : (x = n ∨ x ∈ ledL M n) ∧ x ∈ ledL M x
    · rw [inC, if_pos h, if_pos (decide_eq_true h)]
      rfl
    · rw [inC, if_neg h, if_neg (by simpa using h)]
section
variable {P : Program} {w : World} {K : PySem.W.Frag} {mg : Str → Option Value} {base : Heap} {f fR fN fS fI fF fP fL : Addr}
def spWhole (K : PySem.W.Frag) : Sp := fun vs H Q E => ∃ a pl M c x b, vs = [.ref a, x] ∧ DeskO K H M c a pl ∧ NameQ K H M x b ∧ (b = false → ∀ d H', Same H H' → H' d = some (.xd [("name", x)]) → E (.ref (NC K)) (some d) H') ∧
  (b = true → ∀ n, x = .str n → (circ M n = [] → ∀ f r H', M.lookup n = some f → Same H H' → DocAt K H' (lf M 30 f) r → Q r H') ∧
    (circ M n ≠ [] → ∀ q d H', Same H H' → H' q = some (.tup ((circ M n).map .str)) → H' d = some (.xd [("ring", .ref q)]) → E (.ref (CC K)) (some d) H'))
theorem sc_whole : FnScope ["self", "name", "circular", "other"] ["self", "name"] (defScope (mem 27 17)) := mkScope
theorem hm_whole (D : DeskTx K mg) (N2 : ErrTx K mg "Circular" "ring" (mem 8 0)) (g_tuple : mg "tuple" = none) (g_sorted : mg "sorted" = none) (m_require : HasM P w K mg base 3 (KC K) "require" (He.ma K (KC K) "require") ["self", "name"] (spRequire K)) (m_led : HasM P w K mg base 6 (KC K) "led" (He.ma K (KC K) "led") ["self", "name"] (spLed K))
    (m_filled_in : HasM P w K mg base (9 + 30) (KC K) "filled_in" (He.ma K (KC K) "filled_in") ["self", "name"] (spFilledIn K 30)) : HasM P w K mg base 40 (KC K) "whole" (He.ma K (KC K) "whole") ["self", "name"] (spWhole K) := by
  refine ⟨?_, D.c, D.m_whole, D.d_whole.bindsN fun _ _ _ _ _ _ us hl => match us, hl with | [_, _], _ => rfl⟩
  refine D.d_whole.ok sc_whole (fun vs H Q E ⟨_, _, _, _, _, _, e, _⟩ => by rw [e] <;> rfl) (fun cdv A outer s H vs Q E hr ⟨a, pl, M, c, x, b, ev, hdo, hx, hF, hT⟩ => ⟨_, (pss_cons (ps_expr (pe_hmE m_require (hr.mono (by omega)) (passes_call (W := fun cls d _ H => E cls d H) (takes_of rfl rfl rfl rfl) (fun _ _ _ _ h => h)) (pv 0) (pa_cons (pv 1) pa_nil))) (pss_cons (ps_lock (ps_setLc (i := 2) (own := [("other", 3)]) rfl sc_whole.nd rfl rfl (sw_true rfl rfl rfl rfl) (pi_keys (fld K (pv 0))) (mkBlk (N := ["self", "name", "circular", "other"]) (sc := defScope (mem 27 17))) (fun _ _ _ _ _ => pg_name sc_whole.nd (i := 3) rfl (.inl rfl)) (fun _ _ _ _ _ => (pts_one (PW.pt (pw_and (pt_cmpR (inq K) (pv 3) (pe_op op_cat (pe_lst (pa_cons (pv 1) pa_nil)) (pe_hm m_led (hr.mono (by omega)) (pv 0) (pa_cons (pv 1) pa_nil))) rfl) (pw_and1 (pt_cmpR (inq K) (pv 3) (pe_hm m_led (hr.mono (by omega)) (pv 0) (pa_cons (pv 3) pa_nil)) rfl)))))) (fun _ _ _ _ _ => (pv 3)))) (pss_cons (ps_if (pt_cmpR (neD K rfl (units64 hr)) (pv 2) (pe_lst pa_nil) (nomark _)) (pss_one (ps_raise rfl (W := fun cls d _ H => E cls d H) (takes_of rfl rfl rfl rfl) (pmk_cir N2 (hr.mono (by omega)) rfl (pa_cons (tupq K rfl g_tuple (pe_callB (srtS K) rfl g_sorted Boot.«sorted» (pa_cons (pv 2) pa_nil))) pa_nil)))) pss_nil) (pss_one (ps_ret (pe_hm m_filled_in (hr.mono (by omega)) (pv 0) (pa_cons (pv 1) pa_nil))))))), ?_⟩)
  subst ev
  have hd := hdo.desk
  have G := hd.good
  obtain ⟨dx, dk, ws, xs, h1, h2, h3, h4, h5⟩ := hdo.at_
  refine ⟨_, rfl, a, dx, _, rfl, h1, rfl, _, rfl, a, pl, M, c, x, b, rfl, hd, hx, fun hb H1 s1 => ?_, fun hb d H' s1 hd => hF hb d H' s1 hd⟩
  subst hb
  rcases hx with ⟨n, rfl, _, hb⟩ | ⟨_, _, _, hb⟩
  rotate_left
  · cases hb
  obtain ⟨hn, hk⟩ := Bool.and_eq_true_iff.mp hb.symm
  have hk := of_decide_eq_true hk
  obtain ⟨hT1, hT2⟩ := hT rfl n rfl
  clear hb hT hF
  obtain ⟨f, hf⟩ := lookup_some.mpr hk
  refine ⟨dk, .dK (asKeysV ws), s1 _ _ h2, True.intro, fun od => ?_⟩
  have nda : a ≠ dk := fun e => by rw [e, h2] at h1; cases h1
  have ndp : pl ≠ dk := fun e => by rw [e, h2] at h4; cases h4
  have dl : DeskAt K (upd H1 dk (.frz od (.dK (asKeysV ws)))) M c a pl := ⟨G, dx, dk, ws, xs, by rw [upd_ne nda]; exact s1 _ _ h1, .inr ⟨od, upd_same⟩, (h3.same s1).dK (s1 _ _ h2), by rw [upd_ne ndp]; exact s1 _ _ h4, h5⟩
  have al : (upd H1 dk (.frz od (.dK (asKeysV ws)))) a = some (.ins (KC K) dx [("kept", .ref dk), ("wide", .int 80), ("past", .ref pl)]) := by rw [upd_ne nda]; exact s1 _ _ h1
  have kl : (upd H1 dk (.frz od (.dK (asKeysV ws)))) dk = some (.frz od (.dK (asKeysV ws))) := upd_same
  have un : ∀ {H'}, Same (upd H1 dk (.frz od (.dK (asKeysV ws)))) H' → H' dk = some (.frz od (.dK (asKeysV ws))) ∧ Same H1 (upd H' dk (.dK (asKeysV ws))) := fun s => Same.unlock (s1 _ _ h2) s
  generalize (upd H1 dk (.frz od (.dK (asKeysV ws)))) = HL at dl al kl un ⊢
  refine ⟨_, rfl, a, _, dx, _, _, rfl, al, D.c, D.n_kept, rfl, dk, od, rfl, .inl ⟨_, kl, fun L hL => ?_⟩⟩
  have ek : ws.map (·.1) = keys M := h3.keys
  have ekl : (asKeysV ws).length = (keys M).length := by rw [← ek]; simp [asKeysV]
  have hML := G.len
  have hkL := keys_len (M := M)
  refine lc_same (xs := (keys M).map .str) walk_keys (inC M n) (by rw [List.length_map, ekl]) (by omega) hL (fun H2 s2 => s2 _ _ kl) (fun i H x H' y => ?_) (fun x hx H2 s2 Q2 q2 => ?_) fun H2 s2 e2 => ?_
  · obtain ⟨e, k, v, hk, rfl⟩ := y
    refine ⟨e, ?_⟩
    rw [← ek]
    unfold asKeysV at hk
    rw [List.getElem?_map] at hk ⊢
    rw [List.getElem?_map]
    cases hw : ws[i]? with
    | none => rw [hw] at hk; cases hk
    | some p =>
      rw [hw] at hk
      cases hk
      rfl
  · obtain ⟨z, hz, rfl⟩ := List.mem_map.mp hx
    refine ⟨rfl, _, rfl, _, rfl, le_line (by simp), fun p hp => ?_⟩
    have s3 := s2.trans (Same.upd (o := .lst [.str n]) hp)
    refine ⟨_, rfl, a, dx, _, rfl, s3 _ _ al, rfl, _, rfl, a, pl, M, c, n, rfl, dl.same s3, hk, fun l fs H4 s4 hl e4 nd4 me4 => ?_⟩
    have s34 := s3.trans s4
    have hfl : fs.length ≤ 30 := Nat.le_trans (sub_len nd4 fun y hy => ledL_keys ((me4 y).mp hy)) (by omega)
    refine ⟨p, l, [.str n], _, rfl, rfl, s4 _ _ upd_same, e4, by rw [List.length_map, sizeLine_eq]; simp; omega, fun r hr => ?_⟩
    have s5 := s34.trans (Same.upd (o := .lst ([.str n] ++ fs.map .str)) hr)
    have s5' : Same H2 (upd H4 r (.lst ([.str n] ++ fs.map .str))) := ((Same.upd hp).trans s4).trans (Same.upd hr)
    refine ⟨r, (n :: fs).map .str, rfl, .inl (sqL_of upd_same), rfl, flat_strs (n :: fs), _, rfl, ?_⟩
    rw [inV_str]
    have hm : (z ∈ n :: fs) ↔ (z = n ∨ z ∈ ledL M n) := by rw [List.mem_cons, me4]
    by_cases c1 : z ∈ n :: fs
    · refine ifT (c := if false = true then !decide (z ∈ n :: fs) else decide (z ∈ n :: fs)) (by simpa using c1) ?_
      refine ⟨_, rfl, _, rfl, a, dx, _, rfl, s5 _ _ al, rfl, _, rfl, a, pl, M, c, z, rfl, dl.same s5, hz, fun l6 gs H6 s6 hl6 e6 nd6 me6 => ?_⟩
      refine ⟨l6, _, rfl, .inl (sqL_of e6), rfl, flat_strs gs, _, rfl, ?_⟩
      rw [inV_str]
      have s6' := s5'.trans s6
      by_cases c2 : z ∈ gs
      · refine ifT (c := if false = true then !decide (z ∈ gs) else decide (z ∈ gs)) (by simpa using c2) ⟨_, rfl, ?_⟩
        have := q2 H6 s6'
        rwa [inC, if_pos ⟨hm.mp c1, (me6 z).mp c2⟩] at this
      · refine ifF (c := if false = true then !decide (z ∈ gs) else decide (z ∈ gs)) (by simpa using c2) ?_
        have := q2 H6 s6'
        rwa [inC, if_neg (fun h => c2 ((me6 z).mpr h.2))] at this
    · refine ifF (c := if false = true then !decide (z ∈ n :: fs) else decide (z ∈ n :: fs)) (by simpa using c1) ?_
      have := q2 _ s5'
      rwa [inC, if_neg (fun h => c1 (hm.mpr h.1))] at this
  · rw [inC_map] at e2
    obtain ⟨u1, u2⟩ := un s2
    refine ⟨u1, ?_⟩
    have ndL : L ≠ dk := fun e => by rw [e, kl] at hL; cases hL
    have e3 : (upd H2 dk (.dK (asKeysV ws))) L = some (.lst ((circL M n).map .str)) := by rw [upd_ne ndL]; exact e2
    generalize (upd H2 dk (.dK (asKeysV ws))) = H3 at u2 e3 ⊢
    have s3 := s1.trans u2
    have okc : ∀ y ∈ circL M n, PyData.strOk y = true := fun y hy => nameOk_str (G.names y (ledL_keys (circL_mem.mp hy).2))
    refine ⟨_, rfl, by rw [sizeLine_eq]; exact Nat.zero_le _, fun p hp => ?_⟩
    have s4 := s3.trans (Same.upd (o := .lst []) hp)
    have e4 := (Same.upd (o := .lst []) hp) _ _ e3
    refine ne_nil (sqL_of e4) (sqL_of upd_same) okc ⟨_, rfl, ?_⟩
    by_cases hc : circL M n = []
    · refine ifF (c := !decide (circL M n = [])) (by simpa using hc) ?_
      have ac := circL_nil.mp hc
      refine ⟨_, rfl, a, dx, _, rfl, s4 _ _ h1, rfl, _, rfl, a, pl, M, c, n, f, rfl, hd.same s4, hf, (ht_of hk ac).mono (by omega), fun r H5 s5 hr5 => ?_⟩
      exact hT1 ac f r H5 hf (s4.trans s5) hr5
    · refine ifT (c := !decide (circL M n = [])) (by simpa using hc) ?_
      have nc : circ M n ≠ [] := fun h => hc (circL_nil.mpr h)
      have hcl : (circL M n).length < 64 := by
        have : (circL M n).length ≤ (keys M).length := List.length_filter_le _ _
        omega
      refine ⟨_, rfl, L, _, rfl, sqL_of e4, hcl, fun ys r hp2 hs hr2 => ?_⟩
      have s5 := s4.trans (Same.upd (o := .lst (ys.map V.str)) hr2)
      refine .inl ⟨r, _, rfl, sqL_of upd_same, fun q hq => ?_⟩
      have s6 := s5.trans (Same.upd (o := .tup (ys.map V.str)) hq)
      have ey : ys = circ M n := (perm_nrm hp2 hs (G.nd.filter _)).trans (circ_of fun y => circL_mem)
      exact mk_err fun d H' s7 hd' => hT2 nc q d H' (s6.trans s7) (s7 _ _ (by rw [upd_same, ey])) hd'
end
end Q41
set_option maxRecDepth 100000
set_option maxHeartbeats 4000000
/-! Desk, 8: order. -/
namespace Q41
open PySem PySem.Spec PyProof.Rows L2
/-- a for with an else over it -/
theorem for_itE {J : It} {n : Nat} {G : Hp → Prop} {Y : Nat → Hp → V → Hp → Prop} (w : Walk J n G Y) {g : TG} {tb : TS} {D : Ends} {σ : L2.St} {H : Hp} {S : L2.St → Hp → Prop} (Pv : Nat → L2.St → Hp → Prop) (h0 : Pv 0 σ H) (hG : ∀ i σ H, i ≤ n → Pv i σ H → G H)
    (hs : ∀ i x σ H H', i < n → Pv i σ H → Y i H x H' → g x σ H' fun σ2 H2 => tb { D with nx := Pv (i + 1), ct := Pv (i + 1), bk := D.nx } σ2 H2) (hd : ∀ σ H, Pv n σ H → S σ H) :
    ∃ W : Nat → Nat → L2.St → Hp → Prop, (∃ m, W 0 m σ H) ∧ ∀ i m σ H, W i m σ H →
      (J.stop i H ∧ S σ H) ∨ (J.go i H ∧ ∃ N : L2.St → Hp → Prop, (∀ σ' H', N σ' H' → ∃ m', m' < m ∧ W (i + 1) m' σ' H') ∧ ∀ x H', J.yld i H x H' → g x σ H' fun σ2 H2 => tb { D with nx := N, ct := N, bk := D.nx } σ2 H2) := by
  refine ⟨fun i m σ H => m = n - i ∧ i ≤ n ∧ Pv i σ H, ⟨n, by simp, Nat.zero_le _, h0⟩, ?_⟩
  rintro i m σ H ⟨rfl, hi, p⟩
  have q := hG i σ H hi p
  by_cases hlt : i < n
  · exact .inr ⟨w.goes i H hlt q, Pv (i + 1), fun σ' H' p' => ⟨n - (i + 1), by omega, rfl, hlt, p'⟩, fun x H' y => hs i x σ H H' hlt p (w.yields i H x H' hlt q y)⟩
  · have e : i = n := by omega
    subst e
    exact .inl ⟨w.stops H q, hd σ H p⟩
theorem next_at {M : Kp} {done : List Str} {i : Nat} {x : Str} (hx : (nrm (keys M))[i]? = some x) (hf : isFree M done x = true) (hb : ∀ j y, j < i → (nrm (keys M))[j]? = some y → isFree M done y = false) : nextF M done = some x := by
  obtain ⟨hi, e⟩ := List.getElem?_eq_some_iff.mp hx
  unfold nextF
  rw [List.find?_eq_some_iff_getElem]
  refine ⟨hf, i, hi, e, fun j hj => ?_⟩
  rw [hb j _ hj (List.getElem?_eq_getElem (by omega))]
  rfl
theorem next_no {M : Kp} {done : List Str} (hb : ∀ (j : Nat) (y : Str), (nrm (keys M))[j]? = some y → isFree M done y = false) : nextF M done = none := by
  unfold nextF
  rw [List.find?_eq_none]
  intro x hx
  obtain ⟨j, hj, e⟩ := List.getElem_of_mem hx
  rw [hb j x (by rw [List.getElem?_eq_getElem hj, e])]
  exact Bool.false_ne_true
theorem ord_keys (M : Kp) : ∀ x ∈ ord M, x ∈ keys M := by
  intro x hx
  obtain ⟨j, hj, e⟩ := List.getElem_of_mem hx
  have := (ord_spec M).2.2 j hj
  rw [List.getElem?_eq_getElem hj, e] at this
  exact (nextF_some this).1
def OrdI (M : Kp) (a Dn : Addr) (H0 : Hp) (m j : Nat) (σ : L2.St) (H1 : Hp) : Prop := ∃ nm o : Option V, σ = [some (.ref a), some (.ref Dn), nm, o] ∧ Same H0 H1 ∧ H1 Dn = some (.lst (((ord M).take j).map .str)) ∧ j ≤ (ord M).length ∧ m = (ord M).length - j
def inD (done : List Str) (v : V) : Option V := match v with
  | .str y => some (.bl (decide (y ∈ done)))
  | _ => none
theorem inD_map (done : List Str) (l : List Str) : (l.map V.str).filterMap (inD done) = (l.map fun y => decide (y ∈ done)).map V.bl := by
  induction l with
  | nil => rfl
  | cons x l ih => rw [List.map_cons, List.filterMap_cons, ih] <;> rfl
section
variable {P : Program} {w : World} {K : PySem.W.Frag} {mg : Str → Option Value} {base : Heap} {f fR fN fS fI fF fP fL : Addr}
def spOrder (K : PySem.W.Frag) : SpJ := fun vs H out Q => ∃ a pl M c, vs = [.ref a] ∧ DeskAt K H M c a pl ∧ out = (ord M).map .str ∧ ∀ H', Same H H' → Q H'
theorem sc_order : GScope ["self", "done", "name", "other"] ["self"] (defScope (mem 27 19)) := ⟨by rfl, by rfl, by rfl, by decide +kernel, by rfl, by decide +kernel, by decide +kernel⟩
theorem gf_order (D : DeskTx K mg) (g_all : mg "all" = none) (g_sorted : mg "sorted" = none) (m_used : HasM P w K mg base 5 (KC K) "used" (He.ma K (KC K) "used") ["self", "name"] (spUsed K)) : GFnJ P w K mg base 6 (He.ma K (KC K) "order") (fdOf K (He.ma K (KC K) "order")) ["self"] (spOrder K) := by
  obtain ⟨oc, od, dV, kV, doc, pm, an, cdv, ct, osl, efd, lk, hcd, hdv, _⟩ := D.d_order.ex
  rw [efd] at lk ⊢
  refine gfnJ_of lk hcd sc_order (fun vs H out Q ⟨_, _, _, _, e, _⟩ => by rw [e] <;> rfl) (fun A outer s H vs out Q pn hr ⟨a, pl, M, c, ev, hd, eo, hQ⟩ => ⟨_, (jss_cons (js_ps (ps_set (i := 1) sc_order.nd rfl (.inr rfl) (pe_lst pa_nil))) (jss_cons (js_while owns_gcx (pt_val pe_bl) (jss_cons (js_ps (ps_forE owns_gcx rfl (pil K (pe_callB (call_sortedD rfl) rfl g_sorted Boot.«sorted» (pa_cons (fld K (pv 0)) pa_nil))) (pg_name sc_order.nd (i := 2) rfl (.inl rfl)) (pss_one (ps_if (PW.pt (pw_and (pt_cmpR (ninq K) (pv 2) (pv 1) rfl) (pw_and1 (pt_val (pe_callB (allq K) rfl g_all Boot.«all» (pa_cons (pe_lc (own := [("other", 3)]) rfl sc_order.nd (pil K (pe_hm m_used (hr.mono (by omega)) (pv 0) (pa_cons (pv 2) pa_nil))) (mkBlk (N := ["self", "done", "name", "other"]) (sc := defScope (mem 27 19))) (fun _ _ _ _ _ => pg_name sc_order.nd (i := 3) rfl (.inl rfl)) (fun _ _ _ _ _ => pts_nil) (fun _ _ _ _ _ => (pe_cmpR (inq K) (pv 3) (pv 1) rfl))) pa_nil)))))) (pss_one ps_break) pss_nil)) (pss_one ps_retN))) (jss_cons (js_ps (ps_expr (pe_bm PySem.F.plainAttrs_list PySem.F.slot_list_append PySem.F.type_list_append mt_append (pv 1) (pa_cons (pv 2) pa_nil)))) (jss_cons (js_yield (pv 2)) jss_nil)))) jss_nil)), ?_⟩)
  subst ev
  subst eo
  have G := hd.good
  obtain ⟨dx, dk, ws, xs, h1, h2, h3, h4, h5⟩ := hd.at_
  have ek : ws.map (·.1) = keys M := h3.keys
  have hML := G.len
  have hkL := keys_len (M := M)
  obtain ⟨o1, o2, o3⟩ := ord_spec M
  refine ⟨le_line (by simp), fun Dn hDn => ?_⟩
  have s1 := Same.upd (o := .lst []) hDn
  refine ⟨OrdI M a Dn H, ⟨_, none, none, rfl, s1, upd_same, Nat.zero_le _, rfl⟩, ?_⟩
  rintro m j σ H1 ⟨nm, o, rfl, s2, e2, hj, rfl⟩
  refine ⟨_, rfl, fun j1 σ1 H2 => ∃ m1, m1 < (ord M).length - j ∧ OrdI M a Dn H m1 j1 σ1 H2, fun j1 σ1 H2 h => h, ?_⟩
  refine ⟨_, rfl, a, _, dx, _, _, rfl, s2 _ _ h1, D.c, D.n_kept, rfl, dk, _, keys M, rfl, Same.rd s2 h2, by rw [asKeysV_keys, ek], by omega, fun ys L hp hs hL => ?_⟩
  have ey : ys = nrm (keys M) := perm_nrm hp hs G.nd
  subst ey
  have s3 := s2.trans (Same.upd (o := .lst ((nrm (keys M)).map V.str)) hL)
  have e3 : (upd H1 L (.lst ((nrm (keys M)).map V.str))) Dn = some (.lst (((ord M).take j).map .str)) := (Same.upd hL) _ _ e2
  have eL : (upd H1 L (.lst ((nrm (keys M)).map V.str))) L = some (.lst ((nrm (keys M)).map V.str)) := upd_same
  generalize (upd H1 L (.lst ((nrm (keys M)).map V.str))) = H2 at s3 e3 eL ⊢
  refine ⟨L, rfl, ⟨_, sqL_of eL⟩, ?_⟩
  refine for_itE (walk_list (xs := (nrm (keys M)).map V.str)) (fun i σ H3 => ∃ nm o : Option V, σ = [some (.ref a), some (.ref Dn), nm, o] ∧ Same H2 H3 ∧ ∀ (k : Nat) (y : Str), k < i → (nrm (keys M))[k]? = some y → isFree M ((ord M).take j) y = false) ⟨nm, o, rfl, Same.refl _, fun k y h => absurd h (Nat.not_lt_zero _)⟩ (fun i σ H3 _ ⟨_, _, _, h, _⟩ => sqL_of (h _ _ eL)) (fun i x σ H3 H4 hi ⟨nm, o, eσ, s4, no⟩ y => ?_) (fun σ H3 ⟨nm, o, eσ, s4, no⟩ => ?_)
  · subst eσ
    obtain ⟨rfl, hx⟩ := yat _ _ _ _ y
    rw [List.getElem?_map] at hx
    cases hz : (nrm (keys M))[i]? with
    | none => rw [hz] at hx; cases hx
    | some z =>
    rw [hz] at hx
    cases hx
    have s34 := s3.trans s4
    have hzk : z ∈ keys M := nrm_mem.mp (List.mem_of_getElem? hz)
    have step : ∀ {H5 : Hp}, Same H4 H5 → isFree M ((ord M).take j) z = false → ∃ nm' o' : Option V, ([some (.ref a), some (.ref Dn), some (.str z), o] : L2.St) = [some (.ref a), some (.ref Dn), nm', o'] ∧ Same H2 H5 ∧ ∀ (k : Nat) (y : Str), k < i + 1 → (nrm (keys M))[k]? = some y → isFree M ((ord M).take j) y = false := fun {H5} s5 hf => ⟨_, _, rfl, s4.trans s5, fun k y hk hy => by
      rcases Nat.lt_succ_iff_lt_or_eq.mp hk with h | h
      · exact no k y h hy
      · subst h
        rw [hz] at hy
        cases hy
        exact hf⟩
    refine ⟨_, rfl, _, rfl, Dn, _, rfl, .inl (sqL_of (s4 _ _ e3)), rfl, flat_strs _, _, rfl, ?_⟩
    rw [inV_str]
    by_cases c1 : z ∈ (ord M).take j
    · refine ifF (c := if true = true then !decide (z ∈ (ord M).take j) else decide (z ∈ (ord M).take j)) (by simpa using c1) ?_
      exact step (Same.refl _) (by simp [isFree, c1])
    · refine ifT (c := if true = true then !decide (z ∈ (ord M).take j) else decide (z ∈ (ord M).take j)) (by simpa using c1) ?_
      obtain ⟨f, hf⟩ := lookup_some.mpr hzk
      refine ⟨_, rfl, a, dx, _, rfl, s34 _ _ h1, rfl, _, rfl, a, pl, M, c, z, f, rfl, hd.same s34, hf, fun U H5 s5 hU e5 => ?_⟩
      refine ⟨U, rfl, ⟨_, sqL_of e5⟩, fun D2 hD2 => ?_⟩
      have s45 := s4.trans s5
      have hul := used_len G z
      refine lc_same walk_list (inD ((ord M).take j)) rfl (by rw [List.length_map]; omega) hD2 (fun H6 s6 => sqL_of (s6 _ _ e5)) yat (fun x hx H6 s6 Q6 q6 => ?_) fun H6 s6 e6 => ?_
      · obtain ⟨v, hv, rfl⟩ := List.mem_map.mp hx
        refine ⟨rfl, .str v, rfl, .ref Dn, rfl, Dn, _, rfl, .inl (sqL_of ((s45.trans s6) _ _ e3)), rfl, flat_strs _, ?_⟩
        rw [inV_str]
        exact q6 H6 (Same.refl _)
      · rw [inD_map] at e6
        refine ⟨D2, _, rfl, sqL_of e6, _, rfl, ?_⟩
        have s56 := s5.trans s6
        have eall : ((used M z).map fun y => decide (y ∈ (ord M).take j)).all id = (used M z).all fun h => decide (h ∈ (ord M).take j) := by rw [List.all_map] <;> rfl
        rw [eall]
        cases c2 : (used M z).all fun h => decide (h ∈ (ord M).take j) with
        | false =>
          refine ifF rfl ?_
          exact step s56 (by simp [isFree, c2])
        | true =>
          refine ifT rfl ?_
          have hfree : isFree M ((ord M).take j) z = true := by rw [isFree, c2]; simp [c1]
          have hnx := next_at hz hfree no
          have hjl : j < (ord M).length := by
            rcases Nat.lt_or_eq_of_le hj with h | h
            · exact h
            · rw [h, List.take_length, o1] at hnx
              cases hnx
          have hoj : (ord M)[j]? = some z := by rw [← o3 j hjl, hnx]
          have sA := s34.trans s56
          have eA := (s45.trans s6) _ _ e3
          refine ⟨_, rfl, .inl ⟨rfl, _, sqL_of eA⟩, _, rfl, Dn, _, .str z, rfl, rfl, eA, ?_, ?_⟩
          · rw [List.length_map, List.length_take, sizeLine_eq]
            omega
          · refine ⟨by simpa using hjl, .str z, rfl, by rw [List.getElem?_map, hoj] <;> rfl, ?_⟩
            refine ⟨(ord M).length - (j + 1), by omega, _, _, rfl, sA.over hDn, ?_, by omega, rfl⟩
            rw [upd_same, List.take_add_one, hoj]
            simp
  · have hnx : nextF M ((ord M).take j) = none := next_no fun k y hk => no k y (by rw [List.length_map]; exact (List.getElem?_eq_some_iff.mp hk).1) hk
    refine ⟨rfl, ?_, hQ _ (s3.trans s4)⟩
    rcases Nat.lt_or_eq_of_le hj with h | h
    · rw [o3 j h, List.getElem?_eq_getElem h] at hnx
      cases hnx
    · rw [h, List.length_map]
end
end Q41
set_option maxRecDepth 100000
set_option maxHeartbeats 4000000
/-! Own rules: o.m(..), o[i] by the own class's defs, what they let out told at the slots of the place. -/
namespace Q41
open PySem PySem.Spec PyProof.Rows L2
def tMethS (C : Addr) (m : Str) (sp : Sp) (E : L2.St → XK) (ta : TE) (t : TA) : TE := fun σ H Q => ta σ H fun x H1 => ∃ a dx fs, x = .ref a ∧ H1 a = some (.ins C dx fs) ∧ fs.lookup m = none ∧ t σ H1 fun vs H2 => sp (x :: vs) H2 Q (E σ)
theorem pe_methSl {X : Cx} {k : Nat} {f C : Addr} {ps : List Str} {sp : Sp} {m : Str} {o e : Expr} {es : List Expr} {ta : TE} {t : TA} {apos pos : Pos} {E : L2.St → XK} {pl : Sem Bool} (h : HasM X.prog X.w X.K X.mg X.base k C m f ps sp) (hr : Room k X.A) (hx : ∀ σ, PassesAt (L2.CX X.prog X.w) X σ (E σ)) (ho : PE X o ta) (ha : PA X (e :: es) t)
    (he : starEach (e :: es) X.env = (false, eval e X.env) :: starEach es X.env := by rfl) (hpl : (backTo pos (starEach es X.env)).any (·.1) = false := by rfl)
    (ht : eval (.Call (.Attribute o m apos) (e :: es) [] pos) X.env = (do
      let ov ← eval o X.env
      standAt apos.atName
      let (f, first) ← holding [ov] (getMethod ov m pl)
      callWith pos f first (backTo pos (starEach (e :: es) X.env)) (backToKw pos (keywordEach [] X.env))) := by rfl) :
    PE X (.Call (.Attribute o m apos) (e :: es) [] pos) (tMethS C m sp E ta t) := by
  refine ⟨fun pins s σ H Q I hh => ?_⟩
  refine PySem.W.methodCall_KW (pl := pl) (thn (ho.run pins s σ H _ I hh) fun u s1 ⟨x, H1, I1, rx, a, dx, fs, ex, ea, l, q⟩ => ?_) ht
  subst ex
  obtain rfl : u = Value.ref a := rx
  refine getmeth_ok I1 ea h.c h.m l ?_
  refine PySem.W.callWith_K (first := [.ref a]) (h₀ := X.base) I.ok.mod.kin h.m.kp (thn (ha.run pos pins s1 σ H1 _ I1 q) fun us s2 ⟨vs, H2, I2, r, q2⟩ => ⟨I2.kIn, ?_⟩) he hpl
  exact run_fnS (us := .ref a :: us) (vs := .ref a :: vs) h.F hr h.b (hx σ) I2 (.cons rfl r) q2
def tGetS (C : Addr) (sp : Sp) (E : L2.St → XK) (ta tb : TE) : TE := fun σ H Q => ta σ H fun x H1 => tb σ H1 fun y H2 => ∃ a dx fs, x = .ref a ∧ H2 a = some (.ins C dx fs) ∧ sp [.ref a, y] H2 Q (E σ)
theorem pe_getS {X : Cx} {k : Nat} {C f : Addr} {ps : List Str} {sp : Sp} {E : L2.St → XK} {a b : Expr} {ta tb : TE} {pos : Pos} (g : GetOf X.K C f "__getitem__") (F : FnOk X.prog X.w X.K X.mg X.base (L2.CX X.prog X.w) k f (fdOf X.K f) ps sp) (hr : Room (k + 1) X.A) (bi : Binds X.K (fdOf X.K f) ps [])
    (hx : ∀ σ, PassesAt (L2.CX X.prog X.w) X σ (E σ)) (ha : PE X a ta) (hb : PE X b tb) (hsl : ∀ o i, subscripted b true (.ref o) i = runValue (.builtin "lifetime.subscript" ⟨[.ref o, i], []⟩) := by intro _ _; with_unfolding_all rfl) : PE X (.Subscript a b pos) (tGetS C sp E ta tb) := by
  refine ⟨fun pins s σ H Q I h => ?_⟩
  refine Subscript_ (binT ha hb I h fun v u s2 x y H2 I2 rx ry q => ?_)
  obtain ⟨o, dx, fs, rfl, ea, q⟩ := q
  obtain rfl : v = Value.ref o := rx
  obtain ⟨mA, J, _⟩ := ins_get I2.hok ea
  obtain ⟨od, J, _⟩ := J.look
  obtain ⟨m, hF⟩ := I2.fr
  refine PySem.W.sub_K hF I2.ok.mod.kin J g.at_ g.fi g.fn ?_ (hsl o u)
  have r2 : Vals [V.ref o, y] [Value.ref o, u] := .cons rfl (.cons ry .nil)
  have hl : ([Value.ref o, u] : List Value).length = ps.length := by
    rw [← r2.length]
    exact F.len _ _ _ _ q
  refine wpAny_call (codeAny_mono (F.run X.A.in1 X.stack s2 H2 ⟨[.ref o, u], []⟩ [.ref o, u] _ Q (E σ) hr.in1 I2.env0.in1 (by simpa using bi s2 [.ref o, u] I2.kIn (by simpa using hl)) r2 q) fun r s' hq => ?_)
  cases r with
  | error e => exact hx σ pins H2 s2 e s' I2 hq
  | ok fl =>
    cases fl with
    | ret z => exact I2.after hq
    | next => exact False.elim hq
    | brk => exact False.elim hq
    | cont => exact False.elim hq
end Q41
set_option maxRecDepth 100000
set_option maxHeartbeats 4000000
/-! The law, 1: the purse. -/
namespace Q41
open PySem PySem.Spec PyProof.Rows L2
section
variable {P : Program} {w : World} {K : PySem.W.Frag} {mg : Str → Option Value} {base : Heap} {f fA fM fD : Addr}
/-- [numbers left, a cell, a count] -/
def PurseAt (H : Hp) (p : Addr) (m : Nat) : Prop := ∃ x c k : Int, H p = some (.lst [.int x, .int c, .int k]) ∧ 0 ≤ x ∧ 0 ≤ c ∧ c < 2147483647 ∧ 0 ≤ k ∧ k ≤ m
theorem PurseAt.mono {H : Hp} {p : Addr} {m n : Nat} (h : PurseAt H p m) (l : m ≤ n) : PurseAt H p n := by
  obtain ⟨x, c, k, h1, h2, h3, h4, h5, h6⟩ := h
  exact ⟨x, c, k, h1, h2, h3, h4, h5, by omega⟩
theorem PurseAt.same {H H' : Hp} {p : Addr} {m : Nat} (e : Same H H') (h : PurseAt H p m) : PurseAt H' p m := by
  obtain ⟨x, c, k, h1, h2⟩ := h
  exact ⟨x, c, k, e _ _ h1, h2⟩
/-- all stands but p -/
def Ex (p : Addr) (H H' : Hp) : Prop := ∀ b o, b ≠ p → H b = some o → H' b = some o
theorem Ex.refl {p : Addr} (H : Hp) : Ex p H H := fun _ _ _ e => e
theorem Ex.trans {p : Addr} {H H1 H2 : Hp} (a : Ex p H H1) (b : Ex p H1 H2) : Ex p H H2 := fun c o n e => b c o n (a c o n e)
theorem Ex.of {p : Addr} {H H' : Hp} (s : Same H H') : Ex p H H' := fun _ _ _ e => s _ _ e
theorem Ex.upd {p : Addr} {H : Hp} {o : HO} : Ex p H (L2.upd H p o) := fun b u n e => by rw [upd_ne n]; exact e
theorem Ex.seqT {K : PySem.W.Frag} {p : Addr} {H H' : Hp} {us : List V} (x : Ex p H H') (hp : H p = some (.lst us)) (a : Addr) (xs : List V) (h : SqT K H a xs) : SqT K H' a xs := by
  have ne : ∀ {u : HO}, H a = some u → (∀ us, u ≠ .lst us) → a ≠ p := fun {u} e z q => by
    rw [q, hp] at e
    injection e with e
    exact z _ e.symm
  rcases h with (h | ⟨o, h⟩) | h
  · exact .inl (.inl (x _ _ (ne h (fun _ z => by cases z)) h))
  · exact .inl (.inr ⟨o, x _ _ (ne h (fun _ z => by cases z)) h⟩)
  · exact .inr h
theorem Ex.fm {K : PySem.W.Frag} {p : Addr} {H H' : Hp} {m : Nat} (x : Ex p H H') (hp : PurseAt H p m) {f : Fm} {v : V} (h : FmAt K H f v) : FmAt K H' f v := by
  obtain ⟨_, _, _, h1, _⟩ := hp
  exact h.mono (x.seqT h1)
theorem sc_lat : FnScope ["_law_script", "_law_k"] ["_law_script", "_law_k"] (defScope (top 30)) := mkScope
def spLat (K : PySem.W.Frag) : Sp := fun vs H Q _ => ∃ (a : Addr) (ns : List Int) (k : Nat), vs = [.ref a, .int k] ∧ SqL K H a (ns.map V.int) ∧ ∀ i : Int, Q (.int i) H
theorem has_lat (T : TopDef K mg "_law_at" (top 30) [] f) (g_len : mg "len" = none) : Has P w K mg base 1 "_law_at" f ["_law_script", "_law_k"] (spLat K) := by
  refine mkHas T ?_ (T.d.bindsN fun _ _ _ _ _ _ us hl => match us, hl with | [_, _], _ => rfl)
  refine T.d.ok sc_lat (fun vs H Q E ⟨_, _, _, e, _⟩ => by rw [e] <;> rfl) (fun cdv A outer s H vs Q E hr ⟨a, ns, k, ev, ha, hQ⟩ => ⟨_, PSs.nox (pss_cons (ps_if (pt_cmpR op_lt (pv 1) (pe_callB (lenq K) rfl g_len Boot.«len» (pa_cons (pv 0) pa_nil)) (nomark _)) (pss_one (ps_ret (pe_ix (ixL K) (pv 0) (pv 1) (by intro _ _; rfl)))) pss_nil) (pss_one (ps_ret pe_int))), ?_⟩)
  subst ev
  refine ⟨_, rfl, _, rfl, a, _, rfl, .inl ha, _, _, rfl, rfl, _, rfl, ?_⟩
  by_cases h : (k : Int) < ((ns.map V.int).length : Int)
  · refine ifT (decide_eq_true h) ?_
    rw [List.length_map] at h
    have hk : k < ns.length := by omega
    refine ⟨_, rfl, _, rfl, a, _, k, .int ns[k], rfl, rfl, ha, ?_, hQ _⟩
    unfold atI ixN
    rw [if_pos (by omega), List.length_map, if_pos h]
    simp [hk]
  · exact ifF (decide_eq_false h) (hQ 0)
theorem sc_mix : FnScope ["_law_cell", "_law_k", "_law_number"] ["_law_cell", "_law_k"] (defScope (top 31)) := mkScope
def spMix : Sp := fun vs H Q _ => ∃ c k : Int, vs = [.int c, .int k] ∧ 0 ≤ c ∧ c < 2147483647 ∧ 0 ≤ k ∧ k ≤ 10000000000 ∧ ∀ r : Int, 0 ≤ r → r < 2147483647 → Q (.int r) H
theorem has_mix (T : TopDef K mg "_law_mixed" (top 31) [] f) (g_int : mg "int" = none) : Has P w K mg base 1 "_law_mixed" f ["_law_cell", "_law_k"] spMix := by
  refine mkHas T ?_ (T.d.bindsN fun _ _ _ _ _ _ us hl => match us, hl with | [_, _], _ => rfl)
  refine T.d.ok sc_mix (fun vs H Q E ⟨_, _, e, _⟩ => by rw [e] <;> rfl) (fun cdv A outer s H vs Q E hr ⟨c, k, ev, h1, h2, h3, h4, hQ⟩ => ⟨_, PSs.nox (pss_cons (ps_set (i := 2) sc_mix.nd rfl (.inl rfl) (pe_op op_mod (pe_callTy call_int1 rfl g_int Boot.«int» (pa_cons (pe_op op_add (pe_op op_add (pe_op op_add (pe_op op_mul (pv 0) pe_int) (pe_op op_mul (pe_op op_mul pe_int (pv 1)) (pv 1))) (pv 1)) pe_int) pa_nil)) pe_int)) (pss_cons (ps_set (i := 2) sc_mix.nd rfl (.inl rfl) (pe_op op_mod (pe_callTy call_int1 rfl g_int Boot.«int» (pa_cons (pe_op op_add (pe_op op_mul (pv 2) (pv 2)) pe_int) pa_nil)) pe_int)) (pss_one (ps_ret (pe_op op_mod (pe_callTy call_int1 rfl g_int Boot.«int» (pa_cons (pe_op op_mul (pv 2) pe_int) pa_nil)) pe_int))))), ?_⟩)
  subst ev
  refine ⟨_, rfl, _, _, rfl, rfl, .inl ⟨by omega, by omega⟩, _, rfl, _, _, rfl, rfl, .inl ⟨by omega, by omega⟩, _, rfl, _, _, rfl, rfl, .inr ⟨by omega, by omega⟩, _, _, rfl, rfl, _, rfl, _, _, rfl, rfl, _, _, rfl, rfl, .inl ⟨_, rfl, _, _, rfl, rfl, by omega, ?_⟩⟩
  generalize hn1 : (c * 1103515245 + 7919 * k * k + k + 1) % 2147483647 = n1
  have a1 : 0 ≤ n1 := by omega
  have a2 : n1 < 2147483647 := by omega
  refine ⟨_, rfl, _, rfl, _, _, rfl, rfl, .inl ⟨by omega, by omega⟩, _, _, rfl, rfl, .inl ⟨_, rfl, _, _, rfl, rfl, by omega, ?_⟩⟩
  generalize hn2 : (n1 * n1 + 69621) % 2147483629 = n2
  have b1 : 0 ≤ n2 := by omega
  have b2 : n2 < 2147483629 := by omega
  exact ⟨_, rfl, _, _, rfl, rfl, .inl ⟨by omega, by omega⟩, .inl ⟨_, rfl, _, _, rfl, rfl, by omega, hQ _ (by omega) (by omega)⟩⟩
end
end Q41
set_option maxRecDepth 100000
set_option maxHeartbeats 4000000
/-! The law, 2: the purse drawn from. -/
namespace Q41
open PySem PySem.Spec PyProof.Rows L2
section
variable {P : Program} {w : World} {K : PySem.W.Frag} {mg : Str → Option Value} {base : Heap} {f fA fM fD fR fN fS fI fF fP fL : Addr}
theorem sc_prs : FnScope ["_law_script", "_law_at_here", "_law_cell"] ["_law_script", "_law_at_here"] (defScope (top 32)) := mkScope
def spPrs (K : PySem.W.Frag) : Sp := fun vs H Q _ => ∃ (a : Addr) (ns : List Int) (k : Nat), vs = [.ref a, .int k] ∧ SqL K H a (ns.map V.int) ∧ k ≤ 1000 ∧ ∀ p H', Same H H' → H p = none → PurseAt H' p (1000 * k) → Q (.ref p) H'
theorem has_prs (T : TopDef K mg "_law_purse" (top 32) [] f) (g_int : mg "int" = none) (g_max : mg "max" = none) (h__law_at : Has P w K mg base 1 "_law_at" fA ["_law_script", "_law_k"] (spLat K)) : Has P w K mg base 2 "_law_purse" f ["_law_script", "_law_at_here"] (spPrs K) := by
  refine mkHas T ?_ (T.d.bindsN fun _ _ _ _ _ _ us hl => match us, hl with | [_, _], _ => rfl)
  refine T.d.ok sc_prs (fun vs H Q E ⟨_, _, _, e, _⟩ => by rw [e] <;> rfl) (fun cdv A outer s H vs Q E hr ⟨a, ns, k, ev, ha, hk, hQ⟩ => ⟨_, PSs.nox (pss_cons (ps_set (i := 2) sc_prs.nd rfl (.inl rfl) (pe_hc h__law_at (hr.mono (by omega)) rfl (pa_cons (pv 0) (pa_cons (pv 1) pa_nil)))) (pss_one (ps_ret (pe_lst (pa_cons (pe_op op_mod (pe_callTy call_int1 rfl g_int Boot.«int» (pa_cons (pe_callB (call_max2 rfl) rfl g_max Boot.«max» (pa_cons (pe_op op_sub (pv 2) (pe_op op_powB pe_int pe_int)) (pa_cons pe_int pa_nil))) pa_nil)) (pe_op op_powB (pe_op op_powB pe_int pe_int) pe_int)) (pa_cons (pe_op op_mod (pe_callTy call_int1 rfl g_int Boot.«int» (pa_cons (pv 2) pa_nil)) pe_int) (pa_cons (pe_op op_mul pe_int (pv 1)) pa_nil))))))), ?_⟩)
  subst ev
  refine ⟨_, rfl, _, rfl, a, ns, k, rfl, ha, fun c => ?_⟩
  have b1 : (0 : Int) ≤ 10 ∧ (Builtin.Int.intBits 10 : Int) * 18 ≤ 2 ^ 27 := by decide +kernel
  have b2 : (Builtin.Int.intBits 10 : Int) * 60 ≤ 2 ^ 27 := by decide +kernel
  have b3 : (Builtin.Int.intBits (10 ^ Int.toNat 60) : Int) * 10 ≤ 2 ^ 27 := by decide +kernel
  have b4 : (0 : Int) < ((10 : Int) ^ Int.toNat 60) ^ Int.toNat 10 := by decide +kernel
  refine ⟨_, rfl, _, _, rfl, rfl, ⟨by omega, b1.2⟩, _, _, rfl, rfl, _, _, rfl, .inl ⟨_, rfl, _, _, rfl, rfl, ⟨by omega, b2⟩, _, _, rfl, rfl, ⟨by omega, b3⟩, _, _, rfl, rfl, b4, ?_⟩⟩
  generalize ((10 : Int) ^ Int.toNat 60) ^ Int.toNat 10 = B at b4 ⊢
  generalize (if (0 : Int) > c - (10 : Int) ^ Int.toNat 18 then (0 : Int) else c - (10 : Int) ^ Int.toNat 18) = X
  have hx : 0 ≤ X % B := Int.emod_nonneg _ (by omega)
  refine ⟨_, rfl, .inl ⟨_, rfl, _, _, rfl, rfl, by omega, _, rfl, _, _, rfl, rfl, .inl ⟨by omega, by omega⟩, ?_⟩⟩
  refine ⟨le_line (by simp), fun p hp => hQ p _ (Same.upd hp) hp ⟨_, _, _, upd_same, hx, by omega, by omega, by omega, by omega⟩⟩
theorem sc_drw : FnScope ["_law_purse_here", "_law_out_of", "_law_drawn_here", "_law_number", "_law_k"] ["_law_purse_here", "_law_out_of"] (defScope (top 33)) := mkScope
def spDrw : Sp := fun vs H Q _ => ∃ (p : Addr) (m n : Nat), vs = [.ref p, .int n] ∧ PurseAt H p m ∧ m ≤ 1000000000 ∧ 0 < n ∧ n ≤ 100 ∧ ∀ (r : Nat) H', Ex p H H' → PurseAt H' p (m + 1) → r < n → Q (.int r) H'
theorem has_drw (T : TopDef K mg "_law_draw" (top 33) [] f) (g_int : mg "int" = none) (g_range : mg "range" = none) (h__law_mixed : Has P w K mg base 1 "_law_mixed" fM ["_law_cell", "_law_k"] spMix) : Has P w K mg base 2 "_law_draw" f ["_law_purse_here", "_law_out_of"] spDrw := by
  refine mkHas T ?_ (T.d.bindsN fun _ _ _ _ _ _ us hl => match us, hl with | [_, _], _ => rfl)
  refine T.d.ok sc_drw (fun vs H Q E ⟨_, _, _, e, _⟩ => by rw [e] <;> rfl) (fun cdv A outer s H vs Q E hr ⟨p, m, n, ev, hp, hm, hn, hn2, hQ⟩ => ⟨_, PSs.nox (pss_cons (ps_if (pt_cmpR op_gt (pe_ix (ixL K) (pv 0) pe_int (by intro _ _; rfl)) pe_int (nomark _)) (pss_cons (ps_set (i := 2) sc_drw.nd rfl (.inl rfl) (pe_op op_mod (pe_callTy call_int1 rfl g_int Boot.«int» (pa_cons (pe_ix (ixL K) (pv 0) pe_int (by intro _ _; rfl)) pa_nil)) (pv 1))) (pss_cons (ps_asg (pe_op op_fdiv (pe_ix (ixL K) (pv 0) pe_int (by intro _ _; rfl)) (pv 1)) (pg_sub (pv 0) pe_int set_list)) (pss_one (ps_ret (pv 2))))) pss_nil) (pss_cons (ps_set (i := 3) sc_drw.nd rfl (.inl rfl) pe_int) (pss_cons (ps_for PassesOwn.never rfl (pi_range1 rfl g_range (pa_cons (pe_op op_add pe_int (pe_op op_fdiv (pe_bits (pv 1)) pe_int)) pa_nil)) (pg_name sc_drw.nd (i := 4) rfl (.inl rfl)) (pss_cons (ps_asg (pe_op op_add (pe_ix (ixL K) (pv 0) pe_int (by intro _ _; rfl)) pe_int) (pg_sub (pv 0) pe_int set_list)) (pss_one (ps_set (i := 3) sc_drw.nd rfl (.inl rfl) (pe_op op_add (pe_op op_mul (pv 3) pe_int) (pe_hc h__law_mixed (hr.mono (by omega)) rfl (pa_cons (pe_ix (ixL K) (pv 0) pe_int (by intro _ _; rfl)) (pa_cons (pe_ix (ixL K) (pv 0) pe_int (by intro _ _; rfl)) pa_nil)))))))) (pss_one (ps_ret (pe_op op_mod (pe_callTy call_int1 rfl g_int Boot.«int» (pa_cons (pv 3) pa_nil)) (pv 1))))))), ?_⟩)
  subst ev
  obtain ⟨x, c, k, h1, h2, h3, h4, h5, h6⟩ := hp
  refine ⟨_, rfl, p, _, 0, _, rfl, rfl, sqL_of h1, rfl, _, _, rfl, rfl, _, rfl, ?_⟩
  by_cases hx : 0 < x
  · refine ifT (decide_eq_true hx) ?_
    refine ⟨_, rfl, p, _, 0, _, rfl, rfl, sqL_of h1, rfl, .inl ⟨_, rfl, _, rfl, _, _, rfl, rfl, by omega, ?_⟩⟩
    refine ⟨_, rfl, p, _, 0, _, rfl, rfl, sqL_of h1, rfl, _, rfl, _, _, rfl, rfl, ⟨by omega, by omega⟩, _, rfl, p, _, 0, 0, rfl, rfl, h1, rfl, ?_⟩
    have e : x % (n : Int) = ((x % (n : Int)).toNat : Int) := by rw [Int.toNat_of_nonneg (Int.emod_nonneg _ (by omega))]
    have l1 : x % (n : Int) < n := Int.emod_lt_of_pos _ (by omega)
    have hh := hQ (x % (n : Int)).toNat _ Ex.upd ⟨x / n, c, k, upd_same, Int.ediv_nonneg h2 (by omega), h3, h4, h5, by omega⟩ (by omega)
    rw [← e] at hh
    exact ⟨_, rfl, hh⟩
  · refine ifF (decide_eq_false hx) ?_
    have hb : Builtin.Int.intBits (n : Int) ≤ 7 := intBits_le (by omega)
    have ej : (1 + (Builtin.Int.intBits (n : Int) : Int) / 30).toNat = 1 := by omega
    refine ⟨_, rfl, _, rfl, _, _, rfl, rfl, ⟨by omega, by omega⟩, _, _, rfl, rfl, _, rfl, by omega, by omega, ?_⟩
    rw [ej]
    refine for_range (fun i σ H' => (i = 0 ∧ σ = [some (.ref p), some (.int n), none, some (.int 0), none] ∧ H' = H) ∨ (i = 1 ∧ ∃ (z y : Int), 0 ≤ z ∧ σ = [some (.ref p), some (.int n), none, some (.int z), some (.int y)] ∧ Ex p H H' ∧ PurseAt H' p (m + 1))) (.inl ⟨rfl, rfl, rfl⟩) (fun i σ H' hi h => ?_) (fun σ H' h => ?_)
    · obtain ⟨rfl, rfl, rfl⟩ : i = 0 ∧ σ = [some (.ref p), some (.int n), none, some (.int 0), none] ∧ H' = H := by
        rcases h with h | ⟨h, _⟩
        · exact h
        · omega
      refine ⟨_, rfl, p, _, 2, _, rfl, rfl, sqL_of h1, rfl, _, _, rfl, rfl, _, rfl, p, _, 2, 2, rfl, rfl, h1, rfl, ?_⟩
      have eP : (upd H' p (.lst ([.int x, .int c, .int k].set 2 (.int (k + 1))))) p = some (.lst [.int x, .int c, .int (k + 1)]) := upd_same
      have xP : Ex p H' (upd H' p (.lst ([.int x, .int c, .int k].set 2 (.int (k + 1))))) := Ex.upd
      generalize (upd H' p (.lst ([.int x, .int c, .int k].set 2 (.int (k + 1))))) = H2 at eP xP ⊢
      refine ⟨_, rfl, _, _, rfl, rfl, .inl ⟨by omega, by omega⟩, _, rfl, p, _, 1, _, rfl, rfl, sqL_of eP, rfl, _, rfl, p, _, 2, _, rfl, rfl, sqL_of eP, rfl, c, k + 1, rfl, h3, h4, by omega, by omega, fun r r1 r2 => ?_⟩
      exact ⟨_, _, rfl, rfl, .inr ⟨rfl, _, _, by omega, rfl, xP, x, c, k + 1, eP, h2, h3, h4, by omega, by omega⟩⟩
    · rcases h with ⟨h, _⟩ | ⟨_, z, y, hz, rfl, hx2, hp2⟩
      · cases h
      refine ⟨_, rfl, .inl ⟨_, rfl, _, rfl, _, _, rfl, rfl, by omega, ?_⟩⟩
      have e : z % (n : Int) = ((z % (n : Int)).toNat : Int) := by rw [Int.toNat_of_nonneg (Int.emod_nonneg _ (by omega))]
      have l1 : z % (n : Int) < n := Int.emod_lt_of_pos _ (by omega)
      have hh := hQ (z % (n : Int)).toNat _ hx2 hp2 (by omega)
      rw [← e] at hh
      exact hh
end
end Q41
set_option maxRecDepth 100000
set_option maxHeartbeats 4000000
/-! The law, 3: forms drawn. -/
namespace Q41
open PySem PySem.Spec PyProof.Rows L2
section
variable {P : Program} {w : World} {K : PySem.W.Frag} {mg : Str → Option Value} {base : Heap} {f fA fM fD fR fN fS fI fF fP fL : Addr}
theorem Ex.seqL {p : Addr} {H H' : Hp} (x : Ex p H H') {a : Addr} {xs : List V} (n : a ≠ p) (h : SqL K H a xs) : SqL K H' a xs := by
  rcases h with (h | ⟨o, h⟩) | h
  · exact .inl (.inl (x _ _ n h))
  · exact .inl (.inr ⟨o, x _ _ n h⟩)
  · exact .inr h
theorem Ex.fresh {p q : Addr} {H : Hp} {m : Nat} (h : PurseAt H p m) (hq : H q = none) : q ≠ p := fun e => by
  obtain ⟨_, _, _, h1, _⟩ := h
  rw [e, h1] at hq
  cases hq
theorem decI {i j : Int} : decide (V.int i = V.int j) = decide (i = j) := decide_eq_decide.mpr ⟨fun e => by injection e, fun e => by rw [e]⟩
theorem atI_nat {xs : List V} {r : Nat} (h : r < xs.length) : atI xs (r : Int) = some xs[r] := by
  unfold atI ixN
  rw [if_pos (by omega), if_pos (by omega)]
  simp [h]
/-- what a form is drawn from -/
structure Pool (K : PySem.W.Frag) (H : Hp) (p sl nl : Addr) (ss ns : List Str) : Prop where
  s1 : sl ≠ p
  n1 : nl ≠ p
  s2 : SqL K H sl (ss.map V.str)
  n2 : SqL K H nl (ns.map V.str)
  s3 : 0 < ss.length
  s4 : ss.length ≤ 100
  n4 : ns.length ≤ 100
  s5 : ∀ x ∈ ss, txtOk x = true
  n5 : ∀ x ∈ ns, nameOk x = true
theorem Pool.ex {H H' : Hp} {p sl nl : Addr} {ss ns : List Str} (x : Ex p H H') (h : Pool K H p sl nl ss ns) : Pool K H' p sl nl ss ns := ⟨h.s1, h.n1, x.seqL h.s1 h.s2, x.seqL h.n1 h.n2, h.s3, h.s4, h.n4, h.s5, h.n5⟩
theorem sc_leaf : FnScope ["_law_purse_here", "_law_strings", "_law_names", "_law_way", "_law_string"] ["_law_purse_here", "_law_strings", "_law_names"] (defScope (top 34)) := mkScope
def spLeaf (K : PySem.W.Frag) : Sp := fun vs H Q _ => ∃ (p sl nl : Addr) (m : Nat) (ss ns : List Str), vs = [.ref p, .ref sl, .ref nl] ∧ PurseAt H p m ∧ m ≤ 900000000 ∧ Pool K H p sl nl ss ns ∧ ∀ v f H', Ex p H H' → PurseAt H' p (m + 3) → FmAt K H' f v → f.ok = true → f.depth = 0 → Q v H'
theorem has_leaf (T : TopDef K mg "_law_leaf" (top 34) [] f) (g_len : mg "len" = none) (h__law_draw : Has P w K mg base 2 "_law_draw" fD ["_law_purse_here", "_law_out_of"] spDrw) : Has P w K mg base 3 "_law_leaf" f ["_law_purse_here", "_law_strings", "_law_names"] (spLeaf K) := by
  refine mkHas T ?_ (T.d.bindsN fun _ _ _ _ _ _ us hl => match us, hl with | [_, _, _], _ => rfl)
  refine T.d.ok sc_leaf (fun vs H Q E ⟨_, _, _, _, _, _, e, _⟩ => by rw [e] <;> rfl) (fun cdv A outer s H vs Q E hr ⟨p, sl, nl, m, ss, ns, ev, hp, hm, hP, hQ⟩ => ⟨_, PSs.nox (pss_cons (ps_set (i := 3) sc_leaf.nd rfl (.inl rfl) (pe_hc h__law_draw (hr.mono (by omega)) rfl (pa_cons (pv 0) (pa_cons pe_int pa_nil)))) (pss_cons (ps_set (i := 4) sc_leaf.nd rfl (.inl rfl) (pe_ix (ixL K) (pv 1) (pe_hc h__law_draw (hr.mono (by omega)) rfl (pa_cons (pv 0) (pa_cons (pe_callB (lenq K) rfl g_len Boot.«len» (pa_cons (pv 1) pa_nil)) pa_nil))) (by intro _ _; rfl))) (pss_cons (ps_if (PW.pt (pw_and (pt_cmpR op_eq (pv 3) pe_int (nomark _)) (pw_and1 (pt_cmpR (neD K rfl (units64 hr)) (pv 2) (pe_lst pa_nil) (nomark _))))) (pss_one (ps_ret (pe_tup (pa_cons pe_str (pa_cons (pe_ix (ixL K) (pv 2) (pe_hc h__law_draw (hr.mono (by omega)) rfl (pa_cons (pv 0) (pa_cons (pe_callB (lenq K) rfl g_len Boot.«len» (pa_cons (pv 2) pa_nil)) pa_nil))) (by intro _ _; rfl)) pa_nil))))) pss_nil) (pss_cons (ps_if (pt_cmpR op_lt (pv 3) pe_int (nomark _)) (pss_one (ps_ret (pe_tup (pa_cons pe_str (pa_cons (pv 4) pa_nil))))) pss_nil) (pss_one (ps_ret (pe_tup (pa_cons pe_str (pa_cons (pe_ix (ixL K) (pe_lst (pa_cons (pv 4) (pa_cons pe_non (pa_cons pe_str (pa_cons pe_str pa_nil))))) (pe_hc h__law_draw (hr.mono (by omega)) rfl (pa_cons (pv 0) (pa_cons pe_int pa_nil))) (by intro _ _; rfl)) pa_nil))))))))), ?_⟩)
  subst ev
  refine ⟨_, rfl, p, m, 6, rfl, hp, by omega, by omega, by omega, fun r1 H1 x1 p1 l1 => ?_⟩
  have P1 := hP.ex x1
  have nS := hP.s4
  have nN := hP.n4
  have nS0 := hP.s3
  refine ⟨_, rfl, _, rfl, _, rfl, sl, _, rfl, .inl P1.s2, p, m + 1, _, rfl, p1, by omega, by rw [List.length_map]; omega, by rw [List.length_map]; omega, fun r2 H2 x2 p2 l2 => ?_⟩
  have P2 := P1.ex x2
  refine ⟨sl, _, r2, _, rfl, rfl, P2.s2, atI_nat l2, ?_⟩
  rw [List.length_map] at l2
  have hs : txtOk ss[r2] = true := hP.s5 _ (List.getElem_mem l2)
  rw [List.getElem_map]
  generalize ss[r2] = z at hs ⊢
  have x12 := x1.trans x2
  have isBrk : ∀ {H3 : Hp} {q : Addr} {o : Option Str}, Ex p H H3 → PurseAt H3 p (m + 3) → (∀ y, o = some y → txtOk y = true) → H3 q = some (.tup [.str "break", optV o]) → Q (.ref q) H3 := fun {H3 q o} x3 p3 ho hq => hQ (.ref q) (.brk o) H3 x3 p3 ⟨q, rfl, sqT_of hq⟩ (by
    cases o with
    | none => rfl
    | some y => exact ho y rfl) rfl
  have isTxt : ∀ {H3 : Hp} {q : Addr}, Same H2 H3 → H3 q = some (.tup [.str "text", .str z]) → Q (.ref q) H3 := fun {H3 q} s3 hq => hQ (.ref q) (.txt z) H3 (x12.trans (Ex.of s3)) ((p2.same s3).mono (by omega)) ⟨q, rfl, sqT_of hq⟩ hs rfl
  have okn : ∀ x ∈ ns, PyData.strOk x = true := fun x hx => nameOk_str (hP.n5 x hx)
  refine ⟨_, rfl, rfl, _, rfl, ?_⟩
  rw [decI]
  by_cases c1 : (r1 : Int) = 0
  · refine ifT (decide_eq_true c1) ?_
    refine ⟨_, rfl, by rw [sizeLine_eq]; exact Nat.zero_le _, fun e he => ?_⟩
    have s3 := Same.upd (o := .lst []) he
    have P3 := P2.ex (Ex.of s3)
    refine ne_nil P3.n2 (sqL_of upd_same) okn ⟨_, rfl, ?_⟩
    by_cases c2 : ns = []
    · refine ifF (c := !decide (ns = [])) (by simpa using c2) ?_
      refine ⟨_, rfl, _, _, rfl, rfl, _, rfl, ?_⟩
      refine ifT (decide_eq_true (by omega)) ?_
      exact ⟨_, rfl, le_line (by simp), fun q hq => isTxt (s3.trans (Same.upd hq)) upd_same⟩
    · refine ifT (c := !decide (ns = [])) (by simpa using c2) ?_
      have ln : 0 < ns.length := List.length_pos_iff.mpr c2
      refine ⟨_, rfl, _, rfl, _, rfl, nl, _, rfl, .inl P3.n2, p, m + 2, _, rfl, p2.same s3, by omega, by rw [List.length_map]; omega, by rw [List.length_map]; omega, fun r4 H4 x4 p4 l4 => ?_⟩
      have P4 := P3.ex x4
      refine ⟨nl, _, r4, _, rfl, rfl, P4.n2, atI_nat l4, ?_⟩
      rw [List.length_map] at l4
      rw [List.getElem_map]
      refine ⟨le_line (by simp), fun q hq => ?_⟩
      exact hQ (.ref q) (.hol ns[r4]) _ ((x12.trans (Ex.of s3)).trans (x4.trans (Ex.of (Same.upd hq)))) (p4.same (Same.upd hq)) ⟨q, rfl, sqT_of upd_same⟩ (hP.n5 _ (List.getElem_mem l4)) rfl
  · refine ifF (decide_eq_false c1) ?_
    refine ⟨_, rfl, _, _, rfl, rfl, _, rfl, ?_⟩
    by_cases c3 : (r1 : Int) < 3
    · refine ifT (decide_eq_true c3) ?_
      exact ⟨_, rfl, le_line (by simp), fun q hq => isTxt (Same.upd hq) upd_same⟩
    · refine ifF (decide_eq_false c3) ?_
      refine ⟨_, rfl, le_line (by simp), fun q hq => ⟨_, rfl, p, m + 2, 4, rfl, p2.same (Same.upd hq), by omega, by omega, by omega, fun r4 H4 x4 p4 l4 => ?_⟩⟩
      have nq := Ex.fresh p2 hq
      have e5 := x4 _ _ nq (upd_same (H := H2) (a := q))
      have x5 : Ex p H H4 := x12.trans ((Ex.of (Same.upd hq)).trans x4)
      refine ⟨q, _, r4, _, rfl, rfl, sqL_of e5, atI_nat l4, le_line (by simp), fun t ht => ?_⟩
      have x6 : ∀ o, Ex p H (upd H4 t o) := fun o => x5.trans (Ex.of (Same.upd ht))
      have p6 : ∀ o, PurseAt (upd H4 t o) p (m + 3) := fun o => p4.same (Same.upd ht)
      have l4' : r4 < 4 := l4
      obtain rfl | rfl | rfl | rfl : r4 = 0 ∨ r4 = 1 ∨ r4 = 2 ∨ r4 = 3 := by omega
      · exact isBrk (o := some z) (x6 _) (p6 _) (fun y e => by cases e; exact hs) upd_same
      · exact isBrk (o := none) (x6 _) (p6 _) (fun y e => by cases e) upd_same
      · exact isBrk (o := some " ") (x6 _) (p6 _) (fun y e => by cases e; decide +kernel) upd_same
      · exact isBrk (o := some "") (x6 _) (p6 _) (fun y e => by cases e; decide +kernel) upd_same
end
end Q41
set_option maxRecDepth 100000
set_option maxHeartbeats 4000000
/-! The law, 4: forms drawn, deep. -/
namespace Q41
open PySem PySem.Spec PyProof.Rows L2
section
variable {P : Program} {w : World} {K : PySem.W.Frag} {mg : Str → Option Value} {base : Heap} {f fA fM fD fR fN fS fI fF fP fL : Addr}
def fcost : Nat → Nat
  | 0 => 4
  | d + 1 => 2 * fcost d + 4
def spFrm (K : PySem.W.Frag) (D : Nat) : Sp := fun vs H Q _ => ∃ (p sl nl : Addr) (m d : Nat) (ss ns : List Str), vs = [.ref p, .ref sl, .ref nl, .int d] ∧ d < D ∧ PurseAt H p m ∧ m + fcost d ≤ 800000000 ∧ Pool K H p sl nl ss ns ∧ ∀ v f H', Ex p H H' → PurseAt H' p (m + fcost d) → FmAt K H' f v → f.ok = true → f.depth ≤ d → Q v H'
theorem sc_frm : FnScope ["_law_purse_here", "_law_strings", "_law_names", "_law_deep", "_law_way", "_law_one"] ["_law_purse_here", "_law_strings", "_law_names", "_law_deep"] (defScope (top 35)) := mkScope
theorem has_frm (T : TopDef K mg "_law_form" (top 35) [] f) (g_int : mg "int" = none) (h__law_draw : Has P w K mg base 2 "_law_draw" fD ["_law_purse_here", "_law_out_of"] spDrw) (h__law_leaf : Has P w K mg base 3 "_law_leaf" fL ["_law_purse_here", "_law_strings", "_law_names"] (spLeaf K)) :
    ∀ D, Has P w K mg base (3 + D) "_law_form" f ["_law_purse_here", "_law_strings", "_law_names", "_law_deep"] (spFrm K D) := by
  intro D
  induction D with
  | zero => exact mkHas T ⟨fun vs H Q E ⟨_, _, _, _, _, _, _, _, h, _⟩ => absurd h (Nat.not_lt_zero _), fun A outer s H args us vs Q E _ _ _ _ ⟨_, _, _, _, _, _, _, _, h, _⟩ => absurd h (Nat.not_lt_zero _)⟩ (T.d.bindsN fun _ _ _ _ _ _ us hl => match us, hl with | [_, _, _, _], _ => rfl)
  | succ D h__law_form =>
    refine mkHas T ?_ (T.d.bindsN fun _ _ _ _ _ _ us hl => match us, hl with | [_, _, _, _], _ => rfl)
    refine T.d.ok (k := 3 + D) sc_frm (fun vs H Q E ⟨_, _, _, _, _, _, _, e, _⟩ => by rw [e] <;> rfl) (fun cdv A outer s H vs Q E hr ⟨p, sl, nl, m, d, ss, ns, ev, hd, hp, hm, hP, hQ⟩ => ⟨_, PSs.nox (pss_cons (ps_set (i := 4) sc_frm.nd rfl (.inl rfl) (pe_hc h__law_draw (hr.mono (by omega)) rfl (pa_cons (pv 0) (pa_cons pe_int pa_nil)))) (pss_cons (ps_if (PW.pt (pw_or (pt_cmpR op_eq (pv 3) pe_int (nomark _)) (pw_or1 (pt_cmpR op_eq (pv 4) pe_int (nomark _))))) (pss_one (ps_ret (pe_hc h__law_leaf (hr.mono (by omega)) rfl (pa_cons (pv 0) (pa_cons (pv 1) (pa_cons (pv 2) pa_nil)))))) pss_nil) (pss_cons (ps_set (i := 5) sc_frm.nd rfl (.inl rfl) (pe_hc h__law_form (hr.mono (by omega)) rfl (pa_cons (pv 0) (pa_cons (pv 1) (pa_cons (pv 2) (pa_cons (pe_op op_sub (pv 3) pe_int) pa_nil)))))) (pss_cons (ps_if (pt_cmpR op_lt (pv 4) pe_int (nomark _)) (pss_one (ps_ret (pe_tup (pa_cons pe_str (pa_cons (pv 5) (pa_cons (pe_hc h__law_form (hr.mono (by omega)) rfl (pa_cons (pv 0) (pa_cons (pv 1) (pa_cons (pv 2) (pa_cons (pe_op op_sub (pv 3) pe_int) pa_nil))))) pa_nil)))))) pss_nil) (pss_cons (ps_if (pt_cmpR op_eq (pv 4) pe_int (nomark _)) (pss_one (ps_ret (pe_tup (pa_cons pe_str (pa_cons (pv 5) (pa_cons (pe_hc h__law_form (hr.mono (by omega)) rfl (pa_cons (pv 0) (pa_cons (pv 1) (pa_cons (pv 2) (pa_cons (pe_op op_sub (pv 3) pe_int) pa_nil))))) pa_nil)))))) pss_nil) (pss_cons (ps_if (pt_cmpR op_eq (pv 4) pe_int (nomark _)) (pss_one (ps_ret (pe_tup (pa_cons pe_str (pa_cons (pe_ix (ixL K) (pe_lst (pa_cons (pe_hc h__law_draw (hr.mono (by omega)) rfl (pa_cons (pv 0) (pa_cons pe_int pa_nil))) (pa_cons (pe_hc h__law_draw (hr.mono (by omega)) rfl (pa_cons (pv 0) (pa_cons pe_int pa_nil))) pa_nil))) (pe_hc h__law_draw (hr.mono (by omega)) rfl (pa_cons (pv 0) (pa_cons pe_int pa_nil))) (by intro _ _; rfl)) (pa_cons (pv 5) pa_nil)))))) pss_nil) (pss_one (ps_ret (pe_tup (pa_cons (pe_ix (ixL K) (pe_lst (pa_cons pe_str (pa_cons pe_str pa_nil))) (pe_op op_mod (pe_callTy call_int1 rfl g_int Boot.«int» (pa_cons (pv 4) pa_nil)) pe_int) (by intro _ _; rfl)) (pa_cons (pv 5) pa_nil))))))))))), ?_⟩)
    subst ev
    have hf4 : 4 ≤ fcost d := by
      cases d with
      | zero => exact Nat.le_refl _
      | succ d => unfold fcost; omega
    refine ⟨_, rfl, p, m, 9, rfl, hp, by omega, by omega, by omega, fun r H1 x1 p1 l1 => ?_⟩
    have P1 := hP.ex x1
    have leaf : ∀ (Q1 : VK), (∀ v f H', Ex p H H' → PurseAt H' p (m + fcost d) → FmAt K H' f v → f.ok = true → f.depth ≤ d → Q1 v H') → spLeaf K [.ref p, .ref sl, .ref nl] H1 Q1 E0 := fun Q1 q => ⟨p, sl, nl, m + 1, ss, ns, rfl, p1, by omega, P1, fun v f H' x2 p2 fm ok dp => q v f H' (x1.trans x2) (p2.mono (by omega)) fm ok (by omega)⟩
    refine ⟨_, rfl, rfl, _, rfl, ?_⟩
    rw [decI]
    by_cases c1 : (d : Int) = 0
    · refine ifT (decide_eq_true c1) ?_
      exact ⟨_, rfl, _, rfl, _, rfl, leaf _ hQ⟩
    refine ifF (decide_eq_false c1) ?_
    refine ⟨_, rfl, rfl, _, rfl, ?_⟩
    rw [decI]
    by_cases c2 : (r : Int) = 0
    · refine ifT (decide_eq_true c2) ?_
      exact ⟨_, rfl, _, rfl, _, rfl, leaf _ hQ⟩
    refine ifF (decide_eq_false c2) ?_
    clear leaf
    cases d with
    | zero => exact absurd rfl c1
    | succ d =>
    have ed : ((d + 1 : Nat) : Int) - 1 = (d : Int) := by omega
    have ef : fcost (d + 1) = 2 * fcost d + 4 := rfl
    have one : ∀ {H2 : Hp} {m2 : Nat} (Q1 : VK), Ex p H H2 → PurseAt H2 p m2 → m2 + fcost d ≤ 800000000 → (∀ v f H', Ex p H2 H' → PurseAt H' p (m2 + fcost d) → FmAt K H' f v → f.ok = true → f.depth ≤ d → Q1 v H') → spFrm K D [.ref p, .ref sl, .ref nl, .int ((d + 1 : Nat) - 1)] H2 Q1 E0 := fun {H2 m2} Q1 x2 p2 hm2 q => ⟨p, sl, nl, m2, d, ss, ns, by rw [ed], by omega, p2, hm2, hP.ex x2, q⟩
    refine ⟨_, rfl, _, rfl, _, rfl, _, rfl, _, _, rfl, rfl, one _ x1 p1 (by omega) fun v1 f1 H2 x2 p2 m1 k1 d1 => ?_⟩
    have x12 := x1.trans x2
    refine ⟨_, rfl, _, _, rfl, rfl, _, rfl, ?_⟩
    by_cases c3 : (r : Int) < 4
    · refine ifT (decide_eq_true c3) ?_
      refine ⟨_, rfl, _, rfl, _, rfl, _, rfl, _, rfl, _, _, rfl, rfl, one _ x12 p2 (by omega) fun v2 f2 H3 x3 p3 m3 k2 d2 => ?_⟩
      refine ⟨le_line (by simp), fun q hq => ?_⟩
      have s4 := Same.upd (o := .tup [.str "join", v1, v2]) hq
      exact hQ (.ref q) (.joi f1 f2) _ ((x12.trans x3).trans (Ex.of s4)) ((p3.same s4).mono (by omega)) ⟨q, v1, v2, rfl, sqT_of upd_same, (x3.fm p2 m1).same s4, m3.same s4⟩ (by rw [Fm.ok, k1, k2] <;> rfl) (by simp only [Fm.depth]; omega)
    refine ifF (decide_eq_false c3) ?_
    refine ⟨_, rfl, rfl, _, rfl, ?_⟩
    rw [decI]
    by_cases c4 : (r : Int) = 4
    · refine ifT (decide_eq_true c4) ?_
      refine ⟨_, rfl, _, rfl, _, rfl, _, rfl, _, rfl, _, _, rfl, rfl, one _ x12 p2 (by omega) fun v2 f2 H3 x3 p3 m3 k2 d2 => ?_⟩
      refine ⟨le_line (by simp), fun q hq => ?_⟩
      have s4 := Same.upd (o := .tup [.str "choice", v1, v2]) hq
      exact hQ (.ref q) (.cho f1 f2) _ ((x12.trans x3).trans (Ex.of s4)) ((p3.same s4).mono (by omega)) ⟨q, v1, v2, rfl, sqT_of upd_same, (x3.fm p2 m1).same s4, m3.same s4⟩ (by rw [Fm.ok, k1, k2] <;> rfl) (by simp only [Fm.depth]; omega)
    refine ifF (decide_eq_false c4) ?_
    refine ⟨_, rfl, rfl, _, rfl, ?_⟩
    rw [decI]
    by_cases c5 : (r : Int) = 5
    · refine ifT (decide_eq_true c5) ?_
      refine ⟨_, rfl, p, _, 4, rfl, p2, by omega, by omega, by omega, fun r3 H3 x3 p3 l3 => ?_⟩
      refine ⟨_, rfl, p, _, 41, rfl, p3, by omega, by omega, by omega, fun r4 H4 x4 p4 l4 => ?_⟩
      refine ⟨le_line (by simp), fun q hq => ?_⟩
      have s5 := Same.upd (o := .lst [.int r3, .int r4]) hq
      have nq := Ex.fresh p4 hq
      refine ⟨_, rfl, p, _, 2, rfl, p4.same s5, by omega, by omega, by omega, fun r6 H6 x6 p6 l6 => ?_⟩
      have e6 := x6 _ _ nq (upd_same (H := H4) (a := q))
      have pick : ∃ k : Int, ([.int r3, .int r4] : List V)[r6]'l6 = .int k ∧ 0 ≤ k ∧ k ≤ 40 := by
        obtain rfl | rfl : r6 = 0 ∨ r6 = 1 := by omega
        · exact ⟨r3, rfl, by omega, by omega⟩
        · exact ⟨r4, rfl, by omega, by omega⟩
      obtain ⟨k, ek, k1', k2'⟩ := pick
      refine ⟨q, _, r6, _, rfl, rfl, sqL_of e6, atI_nat l6, ?_⟩
      rw [ek]
      refine ⟨_, rfl, le_line (by simp), fun t ht => ?_⟩
      have s7 := Same.upd (o := .tup [.str "nested", .int k, v1]) ht
      have x26 : Ex p H2 H6 := (x3.trans x4).trans ((Ex.of s5).trans x6)
      exact hQ (.ref t) (.nes k f1) _ ((x12.trans x26).trans (Ex.of s7)) ((p6.same s7).mono (by omega)) ⟨t, v1, rfl, sqT_of upd_same, (x26.fm p2 m1).same s7⟩ (by rw [Fm.ok, k1, decide_eq_true k1', decide_eq_true k2'] <;> rfl) (by simp only [Fm.depth]; omega)
    refine ifF (decide_eq_false c5) ?_
    refine ⟨le_line (by simp), fun q hq => ?_⟩
    have s3 := Same.upd (o := .lst [.str "group", .str "flattened"]) hq
    refine ⟨_, rfl, .inl ⟨_, rfl, _, _, rfl, rfl, by omega, ?_⟩⟩
    have x3 := x12.trans (Ex.of s3)
    obtain e | e : (r : Int) % 2 = 0 ∨ (r : Int) % 2 = 1 := by omega
    · refine ⟨q, _, (r : Int) % 2, .str "group", rfl, rfl, sqL_of upd_same, by rw [e] <;> rfl, _, rfl, le_line (by simp), fun t ht => ?_⟩
      have s7 := Same.upd (o := .tup [.str "group", v1]) ht
      exact hQ (.ref t) (.grp f1) _ (x3.trans (Ex.of s7)) (((p2.same s3).same s7).mono (by omega)) ⟨t, v1, rfl, sqT_of upd_same, (m1.same s3).same s7⟩ k1 (by simp only [Fm.depth]; omega)
    · refine ⟨q, _, (r : Int) % 2, .str "flattened", rfl, rfl, sqL_of upd_same, by rw [e] <;> rfl, _, rfl, le_line (by simp), fun t ht => ?_⟩
      have s7 := Same.upd (o := .tup [.str "flattened", v1]) ht
      exact hQ (.ref t) (.fla f1) _ (x3.trans (Ex.of s7)) (((p2.same s3).same s7).mono (by omega)) ⟨t, v1, rfl, sqT_of upd_same, (m1.same s3).same s7⟩ k1 (by simp only [Fm.depth]; omega)
end
end Q41
set_option maxRecDepth 100000
set_option maxHeartbeats 4000000
/-! The law, 5: documents of forms. -/
namespace Q41
open PySem PySem.Spec PyProof.Rows L2
section
variable {P : Program} {w : World} {K : PySem.W.Frag} {mg : Str → Option Value} {base : Heap} {f fA fM fD fR fN fS fI fF fP fL : Addr}
theorem sc_ldoc : FnScope ["_law_form_here"] ["_law_form_here"] (defScope (top 36)) := mkScope
def spLdoc (K : PySem.W.Frag) (D : Nat) : Sp := fun vs H Q _ => ∃ f v, vs = [v] ∧ FmAt K H f v ∧ f.ok = true ∧ f.depth < D ∧ ∀ r H', Same H H' → DocAt K H' f r → Q r H'
theorem has_ldoc (Dc : DocTx K mg) (T : TopDef K mg "_law_doc" (top 36) [] f) (h_require_doc : Has P w K mg base 1 "require_doc" fR ["thing"] (spReq K)) (h_text : Has P w K mg base 3 "text" fS ["string"] (spText K)) (h_line : Has P w K mg base 3 "line" fL ["flat"] (spLine K)) (h_hole : Has P w K mg base 3 "hole" fI ["name"] (spHole K))
    (m_nested : HasM P w K mg base 3 (DC K) "nested" (He.ma K (DC K) "nested") ["self", "steps"] (spNest K)) (m_group : HasM P w K mg base 3 (DC K) "group" (He.ma K (DC K) "group") ["self"] (sp_grp K)) (m_flattened : HasM P w K mg base 3 (DC K) "flattened" (He.ma K (DC K) "flattened") ["self"] (sp_fla K)) :
    ∀ D, Has P w K mg base (3 + D) "_law_doc" f ["_law_form_here"] (spLdoc K D) := by
  intro D
  induction D with
  | zero => exact mkHas T ⟨fun vs H Q E ⟨_, _, _, _, _, h, _⟩ => absurd h (Nat.not_lt_zero _), fun A outer s H args us vs Q E _ _ _ _ ⟨_, _, _, _, _, h, _⟩ => absurd h (Nat.not_lt_zero _)⟩ (T.d.bindsN fun _ _ _ _ _ _ us hl => match us, hl with | [_], _ => rfl)
  | succ D h__law_doc =>
    refine mkHas T ?_ (T.d.bindsN fun _ _ _ _ _ _ us hl => match us, hl with | [_], _ => rfl)
    refine T.d.ok (k := 3 + D) sc_ldoc (fun vs H Q E ⟨_, _, e, _⟩ => by rw [e] <;> rfl) (fun cdv A outer s H vs Q E hr ⟨f, v, ev, hf, hok, hD, hQ⟩ => ⟨_, PSs.nox (pss_cons (ps_if (pt_cmpR op_eq (pe_ix (ixT K) (pv 0) pe_int (by intro _ _; rfl)) pe_str (nomark _)) (pss_one (ps_ret (pe_hc h_text (hr.mono (by omega)) rfl (pa_cons (pe_ix (ixT K) (pv 0) pe_int (by intro _ _; rfl)) pa_nil)))) pss_nil) (pss_cons (ps_if (pt_cmpR op_eq (pe_ix (ixT K) (pv 0) pe_int (by intro _ _; rfl)) pe_str (nomark _)) (pss_one (ps_ret (pe_hc h_line (hr.mono (by omega)) rfl (pa_cons (pe_ix (ixT K) (pv 0) pe_int (by intro _ _; rfl)) pa_nil)))) pss_nil) (pss_cons (ps_if (pt_cmpR op_eq (pe_ix (ixT K) (pv 0) pe_int (by intro _ _; rfl)) pe_str (nomark _)) (pss_one (ps_ret (pe_hc h_hole (hr.mono (by omega)) rfl (pa_cons (pe_ix (ixT K) (pv 0) pe_int (by intro _ _; rfl)) pa_nil)))) pss_nil) (pss_cons (ps_if (pt_cmpR op_eq (pe_ix (ixT K) (pv 0) pe_int (by intro _ _; rfl)) pe_str (nomark _)) (pss_one (ps_ret (pe_op (op_own Dc.o_add (ok_add Dc h_require_doc) (hr.mono (by omega)) (bn_add Dc) passL) (pe_hc h__law_doc (hr.mono (by omega)) rfl (pa_cons (pe_ix (ixT K) (pv 0) pe_int (by intro _ _; rfl)) pa_nil)) (pe_hc h__law_doc (hr.mono (by omega)) rfl (pa_cons (pe_ix (ixT K) (pv 0) pe_int (by intro _ _; rfl)) pa_nil))))) pss_nil) (pss_cons (ps_if (pt_cmpR op_eq (pe_ix (ixT K) (pv 0) pe_int (by intro _ _; rfl)) pe_str (nomark _)) (pss_one (ps_ret (pe_op (op_own Dc.o_or (ok_or Dc h_require_doc) (hr.mono (by omega)) (bn_or Dc) passL) (pe_hc h__law_doc (hr.mono (by omega)) rfl (pa_cons (pe_ix (ixT K) (pv 0) pe_int (by intro _ _; rfl)) pa_nil)) (pe_hc h__law_doc (hr.mono (by omega)) rfl (pa_cons (pe_ix (ixT K) (pv 0) pe_int (by intro _ _; rfl)) pa_nil))))) pss_nil) (pss_cons (ps_if (pt_cmpR op_eq (pe_ix (ixT K) (pv 0) pe_int (by intro _ _; rfl)) pe_str (nomark _)) (pss_one (ps_ret (pe_hm m_nested (hr.mono (by omega)) (pe_hc h__law_doc (hr.mono (by omega)) rfl (pa_cons (pe_ix (ixT K) (pv 0) pe_int (by intro _ _; rfl)) pa_nil)) (pa_cons (pe_ix (ixT K) (pv 0) pe_int (by intro _ _; rfl)) pa_nil)))) pss_nil) (pss_cons (ps_if (pt_cmpR op_eq (pe_ix (ixT K) (pv 0) pe_int (by intro _ _; rfl)) pe_str (nomark _)) (pss_one (ps_ret (pe_hm0 m_group (hr.mono (by omega)) (pe_hc h__law_doc (hr.mono (by omega)) rfl (pa_cons (pe_ix (ixT K) (pv 0) pe_int (by intro _ _; rfl)) pa_nil))))) pss_nil) (pss_one (ps_ret (pe_hm0 m_flattened (hr.mono (by omega)) (pe_hc h__law_doc (hr.mono (by omega)) rfl (pa_cons (pe_ix (ixT K) (pv 0) pe_int (by intro _ _; rfl)) pa_nil)))))))))))), ?_⟩)
    subst ev
    cases f with
    | txt z =>
      refine rd_eq (i := 0) rfl hf (ifT (by show decide (("text" : Str) = "text") = true; decide +kernel) ?_)
      obtain ⟨a, rfl, h2⟩ := hf
      exact ⟨_, rfl, a, _, 1, _, rfl, rfl, h2, rfl, z, rfl, hok, hQ⟩
    | brk z =>
      refine rd_eq (i := 0) rfl hf (ifF (by show decide (("break" : Str) = "text") = false; decide +kernel) ?_)
      refine rd_eq (i := 0) rfl hf (ifT (by show decide (("break" : Str) = "break") = true; decide +kernel) ?_)
      obtain ⟨a, rfl, h2⟩ := hf
      refine ⟨_, rfl, a, _, 1, _, rfl, rfl, h2, rfl, z, rfl, ?_, hQ⟩
      cases z with
      | none => rfl
      | some y => exact hok
    | hol z =>
      refine rd_eq (i := 0) rfl hf (ifF (by show decide (("hole" : Str) = "text") = false; decide +kernel) ?_)
      refine rd_eq (i := 0) rfl hf (ifF (by show decide (("hole" : Str) = "break") = false; decide +kernel) ?_)
      refine rd_eq (i := 0) rfl hf (ifT (by show decide (("hole" : Str) = "hole") = true; decide +kernel) ?_)
      obtain ⟨a, rfl, h2⟩ := hf
      exact ⟨_, rfl, a, _, 1, _, rfl, rfl, h2, rfl, z, rfl, hok, hQ⟩
    | joi f1 f2 =>
      refine rd_eq (i := 0) rfl hf (ifF (by show decide (("join" : Str) = "text") = false; decide +kernel) ?_)
      refine rd_eq (i := 0) rfl hf (ifF (by show decide (("join" : Str) = "break") = false; decide +kernel) ?_)
      refine rd_eq (i := 0) rfl hf (ifF (by show decide (("join" : Str) = "hole") = false; decide +kernel) ?_)
      refine rd_eq (i := 0) rfl hf (ifT (by show decide (("join" : Str) = "join") = true; decide +kernel) ?_)
      obtain ⟨a, x, y, rfl, h2, h3, h4⟩ := hf
      obtain ⟨k1, k2⟩ := Bool.and_eq_true_iff.mp hok
      have hd1 : f1.depth < D ∧ f2.depth < D := by
        simp only [Fm.depth] at hD
        omega
      refine ⟨_, rfl, a, _, 1, x, rfl, rfl, h2, rfl, f1, x, rfl, h3, k1, hd1.1, fun v1 H1 s1 m1 => ?_⟩
      refine ⟨_, rfl, a, _, 2, y, rfl, rfl, Same.seqT s1 h2, rfl, f2, y, rfl, h4.same s1, k2, hd1.2, fun v2 H2 s2 m2 => ?_⟩
      obtain ⟨b, dx, sx, rfl, e1, e2⟩ := m1.same s2
      obtain ⟨c, dy, sy, rfl, e3, e4⟩ := id m2
      exact ⟨b, c, dx, dy, _, _, rfl, rfl, e1, e3, f1, f2, _, _, rfl, ⟨b, dx, sx, rfl, e1, e2⟩, m2, fun r H3 s3 m3 => hQ r H3 ((s1.trans s2).trans s3) m3⟩
    | cho f1 f2 =>
      refine rd_eq (i := 0) rfl hf (ifF (by show decide (("choice" : Str) = "text") = false; decide +kernel) ?_)
      refine rd_eq (i := 0) rfl hf (ifF (by show decide (("choice" : Str) = "break") = false; decide +kernel) ?_)
      refine rd_eq (i := 0) rfl hf (ifF (by show decide (("choice" : Str) = "hole") = false; decide +kernel) ?_)
      refine rd_eq (i := 0) rfl hf (ifF (by show decide (("choice" : Str) = "join") = false; decide +kernel) ?_)
      refine rd_eq (i := 0) rfl hf (ifT (by show decide (("choice" : Str) = "choice") = true; decide +kernel) ?_)
      obtain ⟨a, x, y, rfl, h2, h3, h4⟩ := hf
      obtain ⟨k1, k2⟩ := Bool.and_eq_true_iff.mp hok
      have hd1 : f1.depth < D ∧ f2.depth < D := by
        simp only [Fm.depth] at hD
        omega
      refine ⟨_, rfl, a, _, 1, x, rfl, rfl, h2, rfl, f1, x, rfl, h3, k1, hd1.1, fun v1 H1 s1 m1 => ?_⟩
      refine ⟨_, rfl, a, _, 2, y, rfl, rfl, Same.seqT s1 h2, rfl, f2, y, rfl, h4.same s1, k2, hd1.2, fun v2 H2 s2 m2 => ?_⟩
      obtain ⟨b, dx, sx, rfl, e1, e2⟩ := m1.same s2
      obtain ⟨c, dy, sy, rfl, e3, e4⟩ := id m2
      exact ⟨b, c, dx, dy, _, _, rfl, rfl, e1, e3, f1, f2, _, _, rfl, ⟨b, dx, sx, rfl, e1, e2⟩, m2, fun r H3 s3 m3 => hQ r H3 ((s1.trans s2).trans s3) m3⟩
    | nes k f1 =>
      refine rd_eq (i := 0) rfl hf (ifF (by show decide (("nested" : Str) = "text") = false; decide +kernel) ?_)
      refine rd_eq (i := 0) rfl hf (ifF (by show decide (("nested" : Str) = "break") = false; decide +kernel) ?_)
      refine rd_eq (i := 0) rfl hf (ifF (by show decide (("nested" : Str) = "hole") = false; decide +kernel) ?_)
      refine rd_eq (i := 0) rfl hf (ifF (by show decide (("nested" : Str) = "join") = false; decide +kernel) ?_)
      refine rd_eq (i := 0) rfl hf (ifF (by show decide (("nested" : Str) = "choice") = false; decide +kernel) ?_)
      refine rd_eq (i := 0) rfl hf (ifT (by show decide (("nested" : Str) = "nested") = true; decide +kernel) ?_)
      obtain ⟨a, x, rfl, h2, h3⟩ := hf
      obtain ⟨k1, k2⟩ := Bool.and_eq_true_iff.mp hok
      obtain ⟨k3, k4⟩ := Bool.and_eq_true_iff.mp k1
      have hd1 : f1.depth < D := by
        simp only [Fm.depth] at hD
        omega
      refine ⟨_, rfl, a, _, 2, x, rfl, rfl, h2, rfl, f1, x, rfl, h3, k2, hd1, fun v1 H1 s1 m1 => ?_⟩
      obtain ⟨b, dx, sx, rfl, e1, e2⟩ := id m1
      exact ⟨b, dx, _, rfl, e1, rfl, _, rfl, a, _, 1, _, rfl, rfl, Same.seqT s1 h2, rfl, f1, _, k, rfl, m1, of_decide_eq_true k3, of_decide_eq_true k4, fun r H3 s3 m3 => hQ r H3 (s1.trans s3) m3⟩
    | grp f1 =>
      refine rd_eq (i := 0) rfl hf (ifF (by show decide (("group" : Str) = "text") = false; decide +kernel) ?_)
      refine rd_eq (i := 0) rfl hf (ifF (by show decide (("group" : Str) = "break") = false; decide +kernel) ?_)
      refine rd_eq (i := 0) rfl hf (ifF (by show decide (("group" : Str) = "hole") = false; decide +kernel) ?_)
      refine rd_eq (i := 0) rfl hf (ifF (by show decide (("group" : Str) = "join") = false; decide +kernel) ?_)
      refine rd_eq (i := 0) rfl hf (ifF (by show decide (("group" : Str) = "choice") = false; decide +kernel) ?_)
      refine rd_eq (i := 0) rfl hf (ifF (by show decide (("group" : Str) = "nested") = false; decide +kernel) ?_)
      refine rd_eq (i := 0) rfl hf (ifT (by show decide (("group" : Str) = "group") = true; decide +kernel) ?_)
      obtain ⟨a, x, rfl, h2, h3⟩ := hf
      have hd1 : f1.depth < D := by
        simp only [Fm.depth] at hD
        omega
      refine ⟨_, rfl, a, _, 1, x, rfl, rfl, h2, rfl, f1, x, rfl, h3, hok, hd1, fun v1 H1 s1 m1 => ?_⟩
      obtain ⟨b, dx, sx, rfl, e1, e2⟩ := id m1
      exact ⟨b, dx, _, rfl, e1, rfl, f1, _, rfl, m1, fun r H3 s3 m3 => hQ r H3 (s1.trans s3) m3⟩
    | fla f1 =>
      refine rd_eq (i := 0) rfl hf (ifF (by show decide (("flattened" : Str) = "text") = false; decide +kernel) ?_)
      refine rd_eq (i := 0) rfl hf (ifF (by show decide (("flattened" : Str) = "break") = false; decide +kernel) ?_)
      refine rd_eq (i := 0) rfl hf (ifF (by show decide (("flattened" : Str) = "hole") = false; decide +kernel) ?_)
      refine rd_eq (i := 0) rfl hf (ifF (by show decide (("flattened" : Str) = "join") = false; decide +kernel) ?_)
      refine rd_eq (i := 0) rfl hf (ifF (by show decide (("flattened" : Str) = "choice") = false; decide +kernel) ?_)
      refine rd_eq (i := 0) rfl hf (ifF (by show decide (("flattened" : Str) = "nested") = false; decide +kernel) ?_)
      refine rd_eq (i := 0) rfl hf (ifF (by show decide (("flattened" : Str) = "group") = false; decide +kernel) ?_)
      obtain ⟨a, x, rfl, h2, h3⟩ := hf
      have hd1 : f1.depth < D := by
        simp only [Fm.depth] at hD
        omega
      refine ⟨_, rfl, a, _, 1, x, rfl, rfl, h2, rfl, f1, x, rfl, h3, hok, hd1, fun v1 H1 s1 m1 => ?_⟩
      obtain ⟨b, dx, sx, rfl, e1, e2⟩ := id m1
      exact ⟨b, dx, _, rfl, e1, rfl, f1, _, rfl, m1, fun r H3 s3 m3 => hQ r H3 (s1.trans s3) m3⟩
end
end Q41
set_option maxRecDepth 100000
set_option maxHeartbeats 4000000
/-! The law, 6: the names in a form. -/
namespace Q41
open PySem PySem.Spec PyProof.Rows L2

/-- what stands in a form's tuple behind its tag -/
def parts : Fm → List (V ⊕ Fm)
  | .txt s => [.inl (.str s)]
  | .brk s => [.inl (optV s)]
  | .hol n => [.inl (.str n)]
  | .joi a b => [.inr a, .inr b]
  | .cho a b => [.inr a, .inr b]
  | .nes k a => [.inl (.int k), .inr a]
  | .grp a => [.inr a]
  | .fla a => [.inr a]
def PartAt (K : PySem.W.Frag) (H : Hp) : V ⊕ Fm → V → Prop
  | .inl v, x => x = v
  | .inr g, x => FmAt K H g x
def PartsAt (K : PySem.W.Frag) (H : Hp) : List (V ⊕ Fm) → List V → Prop
  | [], [] => True
  | p :: ps, x :: xs => PartAt K H p x ∧ PartsAt K H ps xs
  | _, _ => False
theorem PartAt.same {K : PySem.W.Frag} {H H' : Hp} (e : Same H H') {p : V ⊕ Fm} {x : V} (h : PartAt K H p x) : PartAt K H' p x := by
  cases p with
  | inl v => exact h
  | inr g => exact FmAt.same e h
theorem PartsAt.same {K : PySem.W.Frag} {H H' : Hp} (e : Same H H') : ∀ {ps : List (V ⊕ Fm)} {xs : List V}, PartsAt K H ps xs → PartsAt K H' ps xs
  | [], [], _ => trivial
  | _ :: _, _ :: _, h => ⟨h.1.same e, PartsAt.same e h.2⟩
theorem PartsAt.len {K : PySem.W.Frag} {H : Hp} : ∀ {ps : List (V ⊕ Fm)} {xs : List V}, PartsAt K H ps xs → xs.length = ps.length
  | [], [], _ => rfl
  | _ :: _, _ :: _, h => by simp only [List.length_cons, PartsAt.len h.2]
theorem PartsAt.get {K : PySem.W.Frag} {H : Hp} : ∀ {ps : List (V ⊕ Fm)} {xs : List V} {i : Nat} {x : V}, PartsAt K H ps xs → xs[i]? = some x → ∃ p, ps[i]? = some p ∧ PartAt K H p x
  | p :: _, _ :: _, 0, x, h, e => by
    simp at e
    subst e
    exact ⟨p, rfl, h.1⟩
  | _ :: _, _ :: _, i + 1, x, h, e => by
    simp only [List.getElem?_cons_succ] at e ⊢
    exact PartsAt.get h.2 e
  | [], [], i, x, h, e => by simp at e
theorem PartsAt.snoc {K : PySem.W.Frag} {H : Hp} {p : V ⊕ Fm} {x : V} (hx : PartAt K H p x) : ∀ {ps : List (V ⊕ Fm)} {xs : List V}, PartsAt K H ps xs → PartsAt K H (ps ++ [p]) (xs ++ [x])
  | [], [], _ => ⟨hx, trivial⟩
  | _ :: _, _ :: _, h => ⟨h.1, PartsAt.snoc hx h.2⟩
theorem FmAt.parts {K : PySem.W.Frag} {H : Hp} {f : Fm} {v : V} (h : FmAt K H f v) : ∃ a xs, v = .ref a ∧ SqT K H a (.str f.tag :: xs) ∧ PartsAt K H (parts f) xs := by
  cases f with
  | txt s => obtain ⟨a, h1, h2⟩ := h; exact ⟨a, _, h1, h2, rfl, trivial⟩
  | brk s => obtain ⟨a, h1, h2⟩ := h; exact ⟨a, _, h1, h2, rfl, trivial⟩
  | hol s => obtain ⟨a, h1, h2⟩ := h; exact ⟨a, _, h1, h2, rfl, trivial⟩
  | joi f g => obtain ⟨a, x, y, h1, h2, h3, h4⟩ := h; exact ⟨a, _, h1, h2, h3, h4, trivial⟩
  | cho f g => obtain ⟨a, x, y, h1, h2, h3, h4⟩ := h; exact ⟨a, _, h1, h2, h3, h4, trivial⟩
  | nes k f => obtain ⟨a, x, h1, h2, h3⟩ := h; exact ⟨a, _, h1, h2, rfl, h3, trivial⟩
  | grp f => obtain ⟨a, x, h1, h2, h3⟩ := h; exact ⟨a, _, h1, h2, h3, trivial⟩
  | fla f => obtain ⟨a, x, h1, h2, h3⟩ := h; exact ⟨a, _, h1, h2, h3, trivial⟩
theorem FmAt.of_parts {K : PySem.W.Frag} {H : Hp} {f : Fm} {a : Addr} {xs : List V} (h : SqT K H a (.str f.tag :: xs)) (q : PartsAt K H (Q41.parts f) xs) : FmAt K H f (.ref a) := by
  cases f with
  | txt s => match xs, q with | [_], ⟨e, _⟩ => cases e; exact ⟨a, rfl, h⟩
  | brk s => match xs, q with | [_], ⟨e, _⟩ => cases e; exact ⟨a, rfl, h⟩
  | hol s => match xs, q with | [_], ⟨e, _⟩ => cases e; exact ⟨a, rfl, h⟩
  | joi f g => match xs, q with | [x, y], ⟨h1, h2, _⟩ => exact ⟨a, x, y, rfl, h, h1, h2⟩
  | cho f g => match xs, q with | [x, y], ⟨h1, h2, _⟩ => exact ⟨a, x, y, rfl, h, h1, h2⟩
  | nes k f => match xs, q with | [_, x], ⟨e, h2, _⟩ => cases e; exact ⟨a, x, rfl, h, h2⟩
  | grp f => match xs, q with | [x], ⟨h1, _⟩ => exact ⟨a, x, rfl, h, h1⟩
  | fla f => match xs, q with | [x], ⟨h1, _⟩ => exact ⟨a, x, rfl, h, h1⟩
theorem FmAt.ty {K : PySem.W.Frag} {H : Hp} {f : Fm} {v : V} (h : FmAt K H f v) : TyX K H v (.type "tuple") := by
  obtain ⟨a, xs, rfl, h, _⟩ := h.parts
  rcases h with (h | ⟨o, h⟩) | ⟨o, _, _, h, h2, _⟩
  · exact .base (.tup h)
  · exact .fTuple h
  · exact .kTuple h h2
def plainV : V → Prop
  | .str _ => True
  | .int _ => True
  | .non => True
  | _ => False
theorem plain_ty {K : PySem.W.Frag} {H : Hp} {v : V} (h : plainV v) : ∃ t, TyX K H v t ∧ PySem.W.kitOne K t (.type "tuple") = some false := by
  cases v with
  | str z => exact ⟨_, .base (.str z), rfl⟩
  | int i => exact ⟨_, .base (.int i), rfl⟩
  | non => exact ⟨_, .base .non, rfl⟩
  | _ => exact h.elim
theorem parts_plain {f : Fm} {v : V} (h : Sum.inl v ∈ parts f) : plainV v := by
  cases f with
  | brk s => cases s <;> simp [parts, optV] at h <;> subst h <;> trivial
  | _ => simp [parts] at h <;> subst h <;> trivial
theorem parts_depth {f g : Fm} (h : Sum.inr g ∈ parts f) : g.depth < f.depth := by
  cases f <;> simp [parts] at h <;> (try rcases h with rfl | rfl) <;> (try subst h) <;> simp only [Fm.depth] <;> omega
theorem parts_holes {f g : Fm} (h : Sum.inr g ∈ parts f) : ∀ x ∈ g.holes, x ∈ f.holes := by
  cases f <;> simp [parts] at h <;> (try rcases h with rfl | rfl) <;> (try subst h) <;> intro x hx <;> simp [Fm.holes, hx]
theorem parts_ok {f g : Fm} (h : Sum.inr g ∈ parts f) (k : f.ok = true) : g.ok = true := by
  cases f <;> simp [parts] at h <;> (try rcases h with rfl | rfl) <;> (try subst h) <;> simp_all [Fm.ok]
def pHoles : V ⊕ Fm → List Str
  | .inl _ => []
  | .inr g => g.holes
theorem holes_parts {f : Fm} (h : f.tag ≠ "hole") : f.holes = (parts f).flatMap pHoles := by
  cases f with
  | hol n => exact absurd rfl h
  | _ => simp [parts, pHoles, Fm.holes]
theorem parts_len (f : Fm) : (parts f).length ≤ 2 := by cases f <;> simp [parts]
theorem cut1 {x : V} {xs : List V} : cutV (x :: xs) (some 1) none = xs := by
  unfold cutV HT.sIx
  simp
section
variable {P : Program} {w : World} {K : PySem.W.Frag} {mg : Str → Option Value} {base : Heap} {f fA fM fD fR fN fS fI fF fP fL : Addr}
theorem sc_nin : FnScope ["_law_form_here", "_law_found", "_law_part"] ["_law_form_here"] (defScope (top 37)) := mkScope
def spNin (K : PySem.W.Frag) (D : Nat) : Sp := fun vs H Q _ => ∃ f v, vs = [v] ∧ FmAt K H f v ∧ f.depth < D ∧ f.holes.length ≤ 60 ∧ ∀ l H', Same H H' → H l = none → H' l = some (.lst (f.holes.map .str)) → Q (.ref l) H'
theorem has_nin (T : TopDef K mg "_law_names_in" (top 37) [] f) (g_isinstance : mg "isinstance" = none) (g_tuple : mg "tuple" = none) : ∀ D, Has P w K mg base (1 + D) "_law_names_in" f ["_law_form_here"] (spNin K D) := by
  intro D
  induction D with
  | zero => exact mkHas T ⟨fun vs H Q E ⟨_, _, _, _, h, _⟩ => absurd h (Nat.not_lt_zero _), fun A outer s H args us vs Q E _ _ _ _ ⟨_, _, _, _, h, _⟩ => absurd h (Nat.not_lt_zero _)⟩ (T.d.bindsN fun _ _ _ _ _ _ us hl => match us, hl with | [_], _ => rfl)
  | succ D h__law_names_in =>
    refine mkHas T ?_ (T.d.bindsN fun _ _ _ _ _ _ us hl => match us, hl with | [_], _ => rfl)
    refine T.d.ok (k := 1 + D) sc_nin (fun vs H Q E ⟨_, _, e, _⟩ => by rw [e] <;> rfl) (fun cdv A outer s H vs Q E hr ⟨f, v, ev, hf, hD, hl, hQ⟩ => ⟨_, PSs.nox (pss_cons (ps_if (pt_cmpR op_eq (pe_ix (ixT K) (pv 0) pe_int (by intro _ _; rfl)) pe_str (nomark _)) (pss_one (ps_ret (pe_lst (pa_cons (pe_ix (ixT K) (pv 0) pe_int (by intro _ _; rfl)) pa_nil)))) pss_nil) (pss_cons (ps_set (i := 1) sc_nin.nd rfl (.inl rfl) (pe_lst pa_nil)) (pss_cons (ps_for PassesOwn.never rfl (pit K (pe_slice (slt K) (pv 0) (po_some pe_int) po_none)) (pg_name sc_nin.nd (i := 2) rfl (.inl rfl)) (pss_one (ps_if (pt_val (pe_callB (isi K) rfl g_isinstance Boot.«isinstance» (pa_cons (pv 2) (pa_cons (pe_bltn rfl g_tuple Boot.«tuple» (v := .ty "tuple") rfl) pa_nil)))) (pss_one (ps_set (i := 1) sc_nin.nd rfl (.inl rfl) (pe_op op_cat (pv 1) (pe_hc h__law_names_in (hr.mono (by omega)) rfl (pa_cons (pv 2) pa_nil))))) pss_nil))) (pss_one (ps_ret (pv 1)))))), ?_⟩)
    subst ev
    by_cases c1 : f.tag = "hole"
    · refine rd_eq (i := 0) rfl hf (ifT (decide_eq_true c1) ?_)
      cases f with
      | hol n =>
        obtain ⟨a, rfl, h2⟩ := hf
        exact ⟨_, rfl, a, _, 1, _, rfl, rfl, h2, rfl, le_line (by simp), fun l hl => hQ l _ (Same.upd hl) hl upd_same⟩
      | _ => exact absurd c1 (by simp only [Fm.tag]; decide +kernel)
    refine rd_eq (i := 0) rfl hf (ifF (decide_eq_false c1) ?_)
    obtain ⟨a, xs, rfl, h2, hp⟩ := hf.parts
    have hpl := parts_len f
    have exl := hp.len
    refine ⟨le_line (by simp), fun L0 hL0 => ?_⟩
    have s1 := Same.upd (o := .lst []) hL0
    refine ⟨_, rfl, 1, rfl, a, _, rfl, Same.seqT s1 h2, ?_, fun t ht => ?_⟩
    · rintro ⟨h, _⟩
      rw [show (some 1 : Option Int) = some ((1 : Nat) : Int) from rfl, HT.sIx_nat, List.length_cons] at h
      omega
    rw [cut1]
    have s2 := s1.trans (Same.upd (o := .tup xs) ht)
    have e2 : (upd (upd H L0 (.lst [])) t (.tup xs)) t = some (.tup xs) := upd_same
    have e1 : (upd (upd H L0 (.lst [])) t (.tup xs)) L0 = some (.lst (([] : List Str).map .str)) := (Same.upd ht) _ _ upd_same
    have p2 := hp.same s2
    have hLH : H L0 = none := hL0
    generalize (upd (upd H L0 (.lst [])) t (.tup xs)) = H2 at s2 e2 e1 p2 ⊢
    refine ⟨t, rfl, ⟨_, sqT_of e2⟩, ?_⟩
    refine for_it (walk_tup (xs := xs)) (fun i σ H3 => ∃ (L : Addr) (o : Option V), σ = [some (.ref a), some (.ref L), o] ∧ Same H2 H3 ∧ H L = none ∧ H3 L = some (.lst ((((parts f).take i).flatMap pHoles).map .str))) ⟨L0, none, rfl, Same.refl _, hLH, e1⟩ (fun i σ H3 _ ⟨_, _, _, h, _⟩ => sqT_of (h _ _ e2)) (fun i x σ H3 H4 hi ⟨L, o, eσ, s4, hL, eL⟩ y => ?_) (fun σ H3 ⟨L, o, eσ, s4, hL, eL⟩ => ?_)
    · subst eσ
      obtain ⟨rfl, hx⟩ := yat _ _ _ _ y
      obtain ⟨p, hpi, hpx⟩ := (p2.same s4).get hx
      have etk : (parts f).take (i + 1) = (parts f).take i ++ [p] := by rw [List.take_add_one, hpi] <;> rfl
      cases p with
      | inl v =>
        cases hpx
        obtain ⟨ty, hty, hk⟩ := plain_ty (K := K) (H := H4) (parts_plain (List.mem_of_getElem? hpi))
        refine ⟨_, rfl, _, _, _, _, _, rfl, .ty "tuple", hty, hk, _, rfl, ?_⟩
        refine ifF rfl ?_
        refine ⟨L, _, rfl, s4, hL, ?_⟩
        rw [etk, List.flatMap_append]
        simpa [pHoles] using eL
      | inr g =>
        refine ⟨_, rfl, _, _, _, _, _, rfl, .ty "tuple", FmAt.ty hpx, (by rfl), _, rfl, ?_⟩
        refine ifT rfl ?_
        have hg := List.mem_of_getElem? hpi
        have hgl : ∀ {ps : List (V ⊕ Fm)}, Sum.inr g ∈ ps → g.holes.length ≤ (ps.flatMap pHoles).length := fun {ps} h => by
          induction ps with
          | nil => cases h
          | cons q ps ih =>
            rw [List.flatMap_cons, List.length_append]
            rcases List.mem_cons.mp h with rfl | h
            · show g.holes.length ≤ g.holes.length + _
              omega
            · have := ih h
              omega
        have hfl : f.holes.length = ((parts f).flatMap pHoles).length := by rw [holes_parts c1]
        have h3 := hgl hg
        have h4 : (((parts f).take i).flatMap pHoles).length ≤ ((parts f).flatMap pHoles).length := by
          conv => rhs; rw [← List.take_append_drop i (parts f), List.flatMap_append, List.length_append]
          omega
        refine ⟨_, rfl, _, rfl, g, x, rfl, hpx, ?_, by omega, fun l H5 s5 hl5 e5 => ?_⟩
        · have := parts_depth hg
          omega
        refine ⟨L, l, _, _, rfl, rfl, s5 _ _ eL, e5, by rw [List.length_map, List.length_map, sizeLine_eq]; omega, fun r hr => ?_⟩
        have s6 := (s4.trans s5).trans (Same.upd (o := .lst ((((parts f).take i).flatMap pHoles).map V.str ++ g.holes.map V.str)) hr)
        refine ⟨r, _, rfl, s6, ((s2.trans s4).trans s5).free hr, ?_⟩
        rw [upd_same, etk, List.flatMap_append]
        simp [pHoles]
    · subst eσ
      rw [exl, List.take_length, ← holes_parts c1] at eL
      exact ⟨_, rfl, hQ L H3 (s2.trans s4) hL eL⟩
end
end Q41
set_option maxRecDepth 100000
set_option maxHeartbeats 4000000
/-! The law, 7: used, led. -/
namespace Q41
open PySem PySem.Spec PyProof.Rows L2

/-- forms by name -/
def FormsAt (K : PySem.W.Frag) (H : Hp) : List (Str × V) → Kp → Prop
  | [], [] => True
  | (n, v) :: ws, (m, f) :: gs => n = m ∧ FmAt K H f v ∧ FormsAt K H ws gs
  | _, _ => False
theorem FormsAt.same {K : PySem.W.Frag} {H H' : Hp} (e : Same H H') : ∀ {ws : List (Str × V)} {gs : Kp}, FormsAt K H ws gs → FormsAt K H' ws gs
  | [], [], _ => trivial
  | (_, _) :: _, (_, _) :: _, ⟨h1, h2, h3⟩ => ⟨h1, h2.same e, FormsAt.same e h3⟩
theorem FormsAt.mono {K : PySem.W.Frag} {H H' : Hp} (e : ∀ a xs, SqT K H a xs → SqT K H' a xs) : ∀ {ws : List (Str × V)} {gs : Kp}, FormsAt K H ws gs → FormsAt K H' ws gs
  | [], [], _ => trivial
  | (_, _) :: _, (_, _) :: _, ⟨h1, h2, h3⟩ => ⟨h1, h2.mono e, FormsAt.mono e h3⟩
theorem FormsAt.keys {K : PySem.W.Frag} {H : Hp} : ∀ {ws : List (Str × V)} {gs : Kp}, FormsAt K H ws gs → ws.map (·.1) = keys gs
  | [], [], _ => rfl
  | (_, _) :: _, (_, _) :: _, ⟨h1, _, h3⟩ => by
    simp only [List.map_cons, keys] at *
    rw [h1, FormsAt.keys h3]
    rfl
theorem FormsAt.get {K : PySem.W.Frag} {H : Hp} {n : Str} : ∀ {ws : List (Str × V)} {gs : Kp} {f : Fm}, FormsAt K H ws gs → gs.lookup n = some f → ∃ v, valV (asKeysV ws) (.inr n) = some v ∧ FmAt K H f v
  | [], [], f, _, h => by simp at h
  | (a, v) :: ws, (m, g) :: gs, f, ⟨h1, h2, h3⟩, h => by
    subst h1
    rw [List.lookup_cons] at h
    by_cases e : n = a
    · subst e
      simp at h
      subst h
      exact ⟨v, valV_pos rfl, h2⟩
    · have e2 : (n == a) = false := by simpa using e
      rw [e2] at h
      obtain ⟨u, h4, h5⟩ := FormsAt.get h3 h
      exact ⟨u, by rw [← h4]; exact valV_neg (fun q => e (by injection q with q; exact q.symm)), h5⟩
structure KeptAt (K : PySem.W.Frag) (H : Hp) (M : Kp) (d : Addr) : Prop where
  good : Good M
  at_ : ∃ ws, Rd H d (.dK (asKeysV ws)) ∧ FormsAt K H ws M
theorem KeptAt.same {K : PySem.W.Frag} {H H' : Hp} (e : Same H H') {M : Kp} {d : Addr} (h : KeptAt K H M d) : KeptAt K H' M d := by
  obtain ⟨ws, h1, h2⟩ := h.at_
  exact ⟨h.good, ws, Same.rd e h1, h2.same e⟩
theorem KeptAt.get {K : PySem.W.Frag} {H : Hp} {M : Kp} {d : Addr} (h : KeptAt K H M d) {n : Str} {f : Fm} (e : M.lookup n = some f) : ∃ v, DGet H d (.str n) (some v) ∧ FmAt K H f v := by
  obtain ⟨ws, h1, h2⟩ := h.at_
  obtain ⟨v, h4, h5⟩ := h2.get e
  exact ⟨v, .inl ⟨_, .inr n, h1, rfl, h4.symm⟩, h5⟩
theorem KeptAt.in_ {K : PySem.W.Frag} {H : Hp} {M : Kp} {d : Addr} (h : KeptAt K H M d) (n : Str) : ∃ o, DGet H d (.str n) o ∧ o.isSome = decide (n ∈ keys M) := by
  by_cases hk : n ∈ keys M
  · obtain ⟨f, e⟩ := lookup_some.mpr hk
    obtain ⟨v, h4, _⟩ := h.get e
    exact ⟨some v, h4, by rw [decide_eq_true hk]; rfl⟩
  · obtain ⟨ws, h1, h2⟩ := h.at_
    refine ⟨none, .inl ⟨_, .inr n, h1, rfl, (asKeysV_none (by rw [h2.keys]; exact hk)).symm⟩, by rw [decide_eq_false hk]; rfl⟩
section
variable {P : Program} {w : World} {K : PySem.W.Frag} {mg : Str → Option Value} {base : Heap} {f fA fM fD fR fN fS fI fF fP fL : Addr}
theorem sc_lused : FnScope ["_law_kept", "_law_name", "_law_other"] ["_law_kept", "_law_name"] (defScope (top 38)) := mkScope
def spLused (K : PySem.W.Frag) : Sp := fun vs H Q _ => ∃ d n M f, vs = [.ref d, .str n] ∧ KeptAt K H M d ∧ M.lookup n = some f ∧ ∀ l H', Same H H' → H l = none → H' l = some (.lst ((used M n).map .str)) → Q (.ref l) H'
theorem has_lused (T : TopDef K mg "_law_used" (top 38) [] f) (g_set : mg "set" = none) (g_sorted : mg "sorted" = none) (h__law_names_in : Has P w K mg base 5 "_law_names_in" fN ["_law_form_here"] (spNin K 4)) : Has P w K mg base 6 "_law_used" f ["_law_kept", "_law_name"] (spLused K) := by
  refine mkHas T ?_ (T.d.bindsN fun _ _ _ _ _ _ us hl => match us, hl with | [_, _], _ => rfl)
  refine T.d.ok sc_lused (fun vs H Q E ⟨_, _, _, _, e, _⟩ => by rw [e] <;> rfl) (fun cdv A outer s H vs Q E hr ⟨d, n, M, f, ev, hk, hf, hQ⟩ => ⟨_, PSs.nox (pss_one (ps_ret (pe_lc (own := [("_law_other", 2)]) rfl sc_lused.nd (pil K (pe_callB (srtT w) rfl g_sorted Boot.«sorted» (pa_cons (pe_callTy (setq K w) rfl g_set Boot.«set» (pa_cons (pe_hc h__law_names_in (hr.mono (by omega)) rfl (pa_cons (pe_dget (hu_of hr) (pv 0) (pv 1) (by intro _ _; rfl)) pa_nil)) pa_nil)) pa_nil))) (mkBlk (N := ["_law_kept", "_law_name", "_law_other"]) (sc := defScope (top 38))) (fun _ _ _ _ _ => pg_name sc_lused.nd (i := 2) rfl (.inl rfl)) (fun _ _ _ _ _ => (pts_one (pt_cmp (pc_din (hu_of hr) (pv 2) (pv 0))))) (fun _ _ _ _ _ => (pv 2))))), ?_⟩)
  subst ev
  have G := hk.good
  obtain ⟨v, hg, hv⟩ := hk.get hf
  have hz := G.size hf
  have hh := f.holes_size
  have hdp : f.depth ≤ 3 := G.dp _ (mem_of_get hf)
  refine ⟨_, rfl, _, rfl, d, v, rfl, hg, f, v, rfl, hv, by omega, by omega, fun l H1 s1 hl e1 => ?_⟩
  refine ⟨l, f.holes, rfl, sqL_of e1, Nat.lt_of_le_of_lt (by omega : _ ≤ 20) (by decide), fun S hS => ?_⟩
  have s2 := s1.trans (Same.upd (o := SetTO w S f.holes) hS)
  refine ⟨S, _, rfl, upd_same, by omega, fun ys p h1 h2 h3 h4 hp => ?_⟩
  have ey : ys = nrm f.holes := nrm_eq h1 h2 h3
  subst ey
  have s3 := s2.trans (Same.upd (o := .lst ((nrm f.holes).map V.str)) hp)
  have e3 : (upd (upd H1 S (SetTO w S f.holes)) p (.lst ((nrm f.holes).map V.str))) p = some (.lst ((nrm f.holes).map V.str)) := upd_same
  generalize (upd (upd H1 S (SetTO w S f.holes)) p (.lst ((nrm f.holes).map V.str))) = H3 at s3 e3 ⊢
  refine ⟨p, rfl, ⟨_, sqL_of e3⟩, fun L hL => ?_⟩
  refine lc_same walk_list (inK M) rfl (by rw [List.length_map]; omega) hL (fun H4 s4 => sqL_of (s4 _ _ e3)) yat (fun x hx H4 s4 Q4 q4 => ?_) fun H4 s4 e4 => ?_
  · obtain ⟨z, hz, rfl⟩ := List.mem_map.mp hx
    obtain ⟨o, ho, eo⟩ := (hk.same (s3.trans s4)).in_ z
    refine ⟨rfl, _, rfl, _, rfl, d, o, rfl, ho, ?_⟩
    rw [eo]
    refine ⟨_, rfl, ?_⟩
    by_cases hkz : z ∈ keys M
    · refine ifT (decide_eq_true hkz) ⟨_, rfl, ?_⟩
      have := q4 H4 (Same.refl _)
      rwa [inK, if_pos hkz] at this
    · refine ifF (decide_eq_false hkz) ?_
      have := q4 H4 (Same.refl _)
      rwa [inK, if_neg hkz] at this
  · refine hQ L H4 (s3.trans s4) (s3.free hL) ?_
    rw [e4, inK_map, used, hf]
end
end Q41
set_option maxRecDepth 100000
set_option maxHeartbeats 4000000
/-! The law, 8: led. -/
namespace Q41
open PySem PySem.Spec PyProof.Rows L2

theorem cr_lenRd {X : Cx} : CallR X (.builtin "len") (fun xs H Q => ∃ a kvs, xs = [V.ref a] ∧ Rd H a (.dK kvs) ∧ Q (.int kvs.length) H) := by
  intro pins s σ H xs us Q I r h
  obtain ⟨a, kvs, rfl, ha, q⟩ := h
  obtain ⟨u, rfl, ru⟩ := vals1 r
  cases ru
  exact d_len I ha fun t s' I' => ⟨.int kvs.length, H, I', ⟨t, rfl⟩, q⟩
theorem KeptAt.len {K : PySem.W.Frag} {H : Hp} {M : Kp} {d : Addr} (h : KeptAt K H M d) : ∃ kvs, Rd H d (.dK kvs) ∧ kvs.length = M.length := by
  obtain ⟨ws, h1, h2⟩ := h.at_
  refine ⟨_, h1, ?_⟩
  have := congrArg List.length h2.keys
  rw [List.length_map, keys_len] at this
  simpa [asKeysV] using this
/-- a part of a turn of led -/
def midL (M : Kp) (l : List Str) (j : Nat) : List Str := nrm (l ++ (l.take j).flatMap (used M))
theorem midL_zero {M : Kp} {l : List Str} (h : sortedS l = true) (n : l.Nodup) : midL M l 0 = l := by
  unfold midL
  rw [List.take_zero, List.flatMap_nil, List.append_nil, nrm_self h n]
theorem midL_all {M : Kp} {l : List Str} : midL M l l.length = step M l := by
  unfold midL step
  rw [List.take_length]
theorem midL_next {M : Kp} {l : List Str} {j : Nat} {x : Str} (e : l[j]? = some x) {ys : List Str} (h1 : sortedS ys = true) (h2 : ys.Nodup) (h3 : ∀ z, z ∈ ys ↔ z ∈ midL M l j ++ used M x) : ys = midL M l (j + 1) := by
  refine nrm_eq h1 h2 fun z => ?_
  rw [h3, List.take_add_one, e, List.flatMap_append]
  simp only [List.mem_append, midL, nrm_mem, Option.toList_some, List.flatMap_cons, List.flatMap_nil, List.append_nil]
  constructor
  · rintro ((h | h) | h)
    · exact .inl h
    · exact .inr (.inl h)
    · exact .inr (.inr h)
  · rintro (h | h | h)
    · exact .inl (.inl h)
    · exact .inl (.inr h)
    · exact .inr h
theorem midL_keys {M : Kp} {l : List Str} (h : ∀ x ∈ l, x ∈ keys M) (j : Nat) : ∀ x ∈ midL M l j, x ∈ keys M := by
  intro x hx
  rcases List.mem_append.mp (nrm_mem.mp hx) with hx | hx
  · exact h x hx
  · obtain ⟨y, _, hx⟩ := List.mem_flatMap.mp hx
    exact used_keys hx
theorem midL_len {M : Kp} {l : List Str} (h : ∀ x ∈ l, x ∈ keys M) (j : Nat) : (midL M l j).length ≤ (keys M).length := sub_len (nrm_nodup _) (midL_keys h j)
section
variable {P : Program} {w : World} {K : PySem.W.Frag} {mg : Str → Option Value} {base : Heap} {f fA fM fD fR fN fS fI fF fP fL : Addr}
theorem sc_lled : FnScope ["_law_kept", "_law_name", "_law_found", "_law_turn", "_law_other"] ["_law_kept", "_law_name"] (defScope (top 39)) := mkScope
def spLled (K : PySem.W.Frag) : Sp := fun vs H Q _ => ∃ d n M, vs = [.ref d, .str n] ∧ KeptAt K H M d ∧ n ∈ keys M ∧ ∀ l H', Same H H' → H l = none → H' l = some (.lst ((ledL M n).map .str)) → Q (.ref l) H'
theorem has_lled (T : TopDef K mg "_law_led" (top 39) [] f) (g_set : mg "set" = none) (g_sorted : mg "sorted" = none) (g_list : mg "list" = none) (g_len : mg "len" = none) (g_range : mg "range" = none) (h__law_used : Has P w K mg base 6 "_law_used" fN ["_law_kept", "_law_name"] (spLused K)) : Has P w K mg base 7 "_law_led" f ["_law_kept", "_law_name"] (spLled K) := by
  refine mkHas T ?_ (T.d.bindsN fun _ _ _ _ _ _ us hl => match us, hl with | [_, _], _ => rfl)
  refine T.d.ok sc_lled (fun vs H Q E ⟨_, _, _, e, _⟩ => by rw [e] <;> rfl) (fun cdv A outer s H vs Q E hr ⟨d, n, M, ev, hk, hn, hQ⟩ => ⟨_, PSs.nox (pss_cons (ps_set (i := 2) sc_lled.nd rfl (.inl rfl) (pe_hc h__law_used (hr.mono (by omega)) rfl (pa_cons (pv 0) (pa_cons (pv 1) pa_nil)))) (pss_cons (ps_for PassesOwn.never rfl (pi_range1 rfl g_range (pa_cons (pe_callB cr_lenRd rfl g_len Boot.«len» (pa_cons (pv 0) pa_nil)) pa_nil)) (pg_name sc_lled.nd (i := 3) rfl (.inl rfl)) (pss_one (ps_for PassesOwn.never rfl (pil K (pe_callTy call_list_of rfl g_list Boot.«list» (pa_cons (pv 2) pa_nil))) (pg_name sc_lled.nd (i := 4) rfl (.inl rfl)) (pss_one (ps_set (i := 2) sc_lled.nd rfl (.inl rfl) (pe_callB (srtT w) rfl g_sorted Boot.«sorted» (pa_cons (pe_callTy (setq K w) rfl g_set Boot.«set» (pa_cons (pe_op op_cat (pv 2) (pe_hc h__law_used (hr.mono (by omega)) rfl (pa_cons (pv 0) (pa_cons (pv 4) pa_nil)))) pa_nil)) pa_nil))))))) (pss_one (ps_ret (pv 2))))), ?_⟩)
  subst ev
  have G := hk.good
  have hML := G.len
  have hkL := keys_len (M := M)
  obtain ⟨f, hf⟩ := lookup_some.mpr hn
  refine ⟨_, rfl, _, rfl, d, n, M, f, rfl, hk, hf, fun l H1 s1 hl e1 => ?_⟩
  obtain ⟨kvs, hkv, ekv⟩ := (hk.same s1).len
  refine ⟨_, rfl, d, kvs, rfl, hkv, _, rfl, by omega, by omega, ?_⟩
  rw [show ((kvs.length : Int)).toNat = M.length by omega]
  refine for_range (fun i σ H2 => ∃ (L : Addr) (o p : Option V), σ = [some (.ref d), some (.str n), some (.ref L), o, p] ∧ Same H H2 ∧ H L = none ∧ H2 L = some (.lst ((stepN M i (used M n)).map .str))) ⟨l, none, none, rfl, s1, hl, e1⟩ (fun i σ H2 hi ⟨L, o, p, eσ, s2, hL, eL⟩ => ?_) (fun σ H2 ⟨L, o, p, eσ, s2, hL, eL⟩ => ?_)
  · subst eσ
    obtain ⟨st1, st2, st3⟩ := stepN_ok M n i
    have stk : ∀ x ∈ stepN M i (used M n), x ∈ keys M := fun x hx => (st3 x hx).keys
    have stE : stepN M (i + 1) (used M n) = step M (stepN M i (used M n)) := rfl
    have stL := sub_len st2 stk
    generalize stepN M i (used M n) = L0 at *
    refine ⟨_, rfl, L, _, rfl, .inl (sqL_of eL), fun C hC => ?_⟩
    have s3 := s2.trans (Same.upd (o := .lst (L0.map V.str)) hC)
    have eC : (upd H2 C (.lst (L0.map V.str))) C = some (.lst (L0.map V.str)) := upd_same
    have eL3 := (Same.upd (o := .lst (L0.map V.str)) hC) _ _ eL
    generalize (upd H2 C (.lst (L0.map V.str))) = H3 at s3 eC eL3 ⊢
    refine ⟨C, rfl, ⟨_, sqL_of eC⟩, ?_⟩
    refine for_it (walk_list (xs := L0.map V.str)) (fun j σ H4 => ∃ (L : Addr) (o p : Option V), σ = [some (.ref d), some (.str n), some (.ref L), o, p] ∧ Same H3 H4 ∧ H L = none ∧ H4 L = some (.lst ((midL M L0 j).map .str))) ⟨L, _, _, rfl, Same.refl _, hL, by rw [midL_zero st1 st2]; exact eL3⟩ (fun j σ H4 _ ⟨_, _, _, _, h, _⟩ => sqL_of (h _ _ eC)) (fun j x σ H4 H5 hj ⟨L, o, p, eσ, s4, hL, eL⟩ y => ?_) (fun σ H4 ⟨L, o, p, eσ, s4, hL, eL⟩ => ?_)
    · subst eσ
      obtain ⟨rfl, hx⟩ := yat _ _ _ _ y
      rw [List.getElem?_map] at hx
      cases hz : L0[j]? with
      | none => rw [hz] at hx; cases hx
      | some z =>
      rw [hz] at hx
      cases hx
      have s34 := s3.trans s4
      have hzk : z ∈ keys M := stk z (List.mem_of_getElem? hz)
      obtain ⟨f2, hf2⟩ := lookup_some.mpr hzk
      have hul := used_len G z
      have hml := midL_len stk j
      refine ⟨_, rfl, _, rfl, _, rfl, d, z, M, f2, rfl, hk.same s34, hf2, fun U H6 s6 hU e6 => ?_⟩
      have s36 := s34.trans s6
      refine ⟨L, U, _, _, rfl, rfl, s6 _ _ eL, e6, by rw [List.length_map, List.length_map, sizeLine_eq]; omega, fun c hc => ?_⟩
      have s7 := s36.trans (Same.upd (o := .lst ((midL M L0 j).map V.str ++ (used M z).map V.str)) hc)
      have s47 := s6.trans (Same.upd (o := .lst ((midL M L0 j).map V.str ++ (used M z).map V.str)) hc)
      have e7 : (upd H6 c (.lst ((midL M L0 j).map V.str ++ (used M z).map V.str))) c = some (.lst ((midL M L0 j ++ used M z).map V.str)) := by rw [upd_same, List.map_append]
      generalize (upd H6 c (.lst ((midL M L0 j).map V.str ++ (used M z).map V.str))) = H7 at s7 s47 e7 ⊢
      refine ⟨c, _, rfl, sqL_of e7, Nat.lt_of_le_of_lt (by rw [List.length_append]; omega : _ ≤ 50) (by decide), fun S hS => ?_⟩
      have s8 := s47.trans (Same.upd (o := SetTO w S (midL M L0 j ++ used M z)) hS)
      refine ⟨S, _, rfl, upd_same, by rw [List.length_append]; omega, fun ys q h1 h2 h3 h4 hq => ?_⟩
      have s9 := s8.trans (Same.upd (o := .lst (ys.map V.str)) hq)
      exact ⟨q, _, _, rfl, s4.trans s9, s34.free (s8.free hq), by rw [upd_same, midL_next hz h1 h2 h3]⟩
    · subst eσ
      rw [List.length_map, midL_all, ← stE] at eL
      exact ⟨L, _, _, rfl, s3.trans s4, hL, eL⟩
  · subst eσ
    rw [← hkL] at eL
    exact ⟨_, rfl, hQ L H2 s2 hL eL⟩
end
end Q41
set_option maxRecDepth 100000
set_option maxHeartbeats 4000000
/-! The law, 9: filled. -/
namespace Q41
open PySem PySem.Spec PyProof.Rows L2

def fillP (g : Str → Option Fm) : V ⊕ Fm → V ⊕ Fm
  | .inl v => .inl v
  | .inr f => .inr (f.fill g)
theorem parts_fill {g : Str → Option Fm} {f : Fm} (h : f.tag ≠ "hole") : parts (f.fill g) = (parts f).map (fillP g) ∧ (f.fill g).tag = f.tag := by
  cases f with
  | hol n => exact absurd rfl h
  | _ => exact ⟨rfl, rfl⟩
theorem fill_leaf {g : Str → Option Fm} {f : Fm} (h : f.tag = "text" ∨ f.tag = "break") : f.fill g = f := by
  cases f with
  | txt s => rfl
  | brk s => rfl
  | _ => rcases h with h | h <;> exact absurd h (by simp only [Fm.tag]; decide +kernel)
theorem HtF.part {M : Kp} {k : Nat} {f g : Fm} (h : HtF M k f) (hg : Sum.inr g ∈ parts f) : HtF M k g := fun x hx => h x (parts_holes hg x hx)
theorem lf_stable {M : Kp} : ∀ {k j : Nat} {f : Fm}, HtF M k f → k ≤ j → lf M (j + 1) f = lf M (k + 1) f
  | 0, j, f, h, _ => by
    rw [lf, lf]
    refine Fm.fill_congr f fun x hx => ?_
    rw [lookup_none (fun hk => h x hx hk)]
    rfl
  | k + 1, 0, f, h, hl => by omega
  | k + 1, j + 1, f, h, hl => by
    rw [lf, lf]
    refine Fm.fill_congr f fun x hx => ?_
    by_cases hk : x ∈ keys M
    · obtain ⟨f2, e⟩ := lookup_some.mpr hk
      rw [e, Option.map_some, Option.map_some, lf_stable (ht_htF (h x hx hk) e) (by omega)]
    · rw [lookup_none hk]
      rfl
section
variable {P : Program} {w : World} {K : PySem.W.Frag} {mg : Str → Option Value} {base : Heap} {f fA fM fD fR fN fS fI fF fP fL : Addr}
theorem sc_lfil : FnScope ["_law_kept", "_law_form_here", "_law_found", "_law_part"] ["_law_kept", "_law_form_here"] (defScope (top 40)) := mkScope
def spLfil (K : PySem.W.Frag) (D : Nat) : Sp := fun vs H Q _ => ∃ d v M f k, vs = [.ref d, v] ∧ KeptAt K H M d ∧ FmAt K H f v ∧ HtF M k f ∧ 5 * k + f.depth < D ∧ ∀ r H', Same H H' → FmAt K H' (lf M (k + 1) f) r → Q r H'
theorem has_lfil (T : TopDef K mg "_law_filled" (top 40) [] f) (g_isinstance : mg "isinstance" = none) (g_tuple : mg "tuple" = none) : ∀ D, Has P w K mg base D "_law_filled" f ["_law_kept", "_law_form_here"] (spLfil K D) := by
  intro D
  induction D with
  | zero => exact mkHas T ⟨fun vs H Q E ⟨_, _, _, _, _, _, _, _, _, h, _⟩ => absurd h (Nat.not_lt_zero _), fun A outer s H args us vs Q E _ _ _ _ ⟨_, _, _, _, _, _, _, _, _, h, _⟩ => absurd h (Nat.not_lt_zero _)⟩ (T.d.bindsN fun _ _ _ _ _ _ us hl => match us, hl with | [_, _], _ => rfl)
  | succ D h__law_filled =>
    refine mkHas T ?_ (T.d.bindsN fun _ _ _ _ _ _ us hl => match us, hl with | [_, _], _ => rfl)
    refine T.d.ok (k := D) sc_lfil (fun vs H Q E ⟨_, _, _, _, _, e, _⟩ => by rw [e] <;> rfl) (fun cdv A outer s H vs Q E hr ⟨d, v, M, f, k, ev, hk, hf, hh, hD, hQ⟩ => ⟨_, PSs.nox (pss_cons (ps_if (pt_cmpR op_eq (pe_ix (ixT K) (pv 1) pe_int (by intro _ _; rfl)) pe_str (nomark _)) (pss_cons (ps_if (pt_cmp (pc_dnotin (hu_of hr) (pe_ix (ixT K) (pv 1) pe_int (by intro _ _; rfl)) (pv 0))) (pss_one (ps_ret (pv 1))) pss_nil) (pss_one (ps_ret (pe_hc h__law_filled (hr.mono (by omega)) rfl (pa_cons (pv 0) (pa_cons (pe_dget (hu_of hr) (pv 0) (pe_ix (ixT K) (pv 1) pe_int (by intro _ _; rfl)) (by intro _ _; rfl)) pa_nil)))))) pss_nil) (pss_cons (ps_if (pt_cmpR (inq K) (pe_ix (ixT K) (pv 1) pe_int (by intro _ _; rfl)) (pe_tup (pa_cons pe_str (pa_cons pe_str pa_nil))) rfl) (pss_one (ps_ret (pv 1))) pss_nil) (pss_cons (ps_set (i := 2) sc_lfil.nd rfl (.inl rfl) (pe_tup pa_nil)) (pss_cons (ps_for PassesOwn.never rfl (pit K (pv 1)) (pg_name sc_lfil.nd (i := 3) rfl (.inl rfl)) (pss_cons (ps_if (pt_val (pe_callB (isi K) rfl g_isinstance Boot.«isinstance» (pa_cons (pv 3) (pa_cons (pe_bltn rfl g_tuple Boot.«tuple» (v := .ty "tuple") rfl) pa_nil)))) (pss_one (ps_set (i := 3) sc_lfil.nd rfl (.inl rfl) (pe_hc h__law_filled (hr.mono (by omega)) rfl (pa_cons (pv 0) (pa_cons (pv 3) pa_nil))))) pss_nil) (pss_one (ps_set (i := 2) sc_lfil.nd rfl (.inl rfl) (pe_op (op_catA) (pv 2) (pe_tup (pa_cons (pv 3) pa_nil))))))) (pss_one (ps_ret (pv 2))))))), ?_⟩)
    subst ev
    have G := hk.good
    by_cases c1 : f.tag = "hole"
    · refine rd_eq (i := 1) rfl hf (ifT (decide_eq_true c1) ?_)
      cases f with
      | hol n =>
        obtain ⟨a, rfl, h2⟩ := id hf
        obtain ⟨o, ho, eo⟩ := hk.in_ n
        refine ⟨_, rfl, a, _, 1, _, rfl, rfl, h2, rfl, _, rfl, d, o, rfl, ho, ?_⟩
        rw [eo]
        refine ⟨_, rfl, ?_⟩
        by_cases hn : n ∈ keys M
        · refine ifF (c := !decide (n ∈ keys M)) (by simp [hn]) ?_
          obtain ⟨f2, hf2⟩ := lookup_some.mpr hn
          obtain ⟨u, hg, hu⟩ := hk.get hf2
          have ht := hh n (by simp [Fm.holes]) hn
          cases k with
          | zero => exact ht.elim
          | succ k =>
            have hd2 : f2.depth ≤ 3 := G.dp _ (mem_of_get hf2)
            refine ⟨_, rfl, _, rfl, _, rfl, a, _, 1, _, rfl, rfl, h2, rfl, d, u, rfl, hg, d, u, M, f2, k, rfl, hk, hu, ht_htF ht hf2, by omega, fun r H1 s1 m1 => ?_⟩
            refine hQ r H1 s1 ?_
            rw [lf, Fm.fill, hf2]
            exact m1
        · refine ifT (c := !decide (n ∈ keys M)) (by simp [hn]) ?_
          refine ⟨_, rfl, hQ _ H (Same.refl _) ?_⟩
          rw [lf, Fm.fill, lookup_none hn]
          exact ⟨a, rfl, h2⟩
      | _ => exact absurd c1 (by simp only [Fm.tag]; decide +kernel)
    refine rd_eq (i := 1) rfl hf (ifF (decide_eq_false c1) ?_)
    refine rd_in2 (i := 1) rfl hf fun H1 s1 => ?_
    by_cases c2 : f.tag = "text" ∨ f.tag = "break"
    · refine ifT (by simpa using c2) ?_
      refine ⟨_, rfl, hQ _ H1 s1 ?_⟩
      rw [lf, fill_leaf c2]
      exact hf.same s1
    refine ifF (by simpa using c2) ?_
    refine ⟨le_line (by simp), fun L0 hL0 => ?_⟩
    have s2 := s1.trans (Same.upd (o := .tup []) hL0)
    have e0 : (upd H1 L0 (.tup [])) L0 = some (.tup []) := upd_same
    generalize (upd H1 L0 (.tup [])) = H2 at s2 e0 ⊢
    obtain ⟨a, xs, rfl, h2, hp⟩ := (hf.same s2).parts
    have hpl := parts_len f
    have exl := hp.len
    have hp1 : PartsAt K H2 (.inl (.str f.tag) :: parts f) (.str f.tag :: xs) := ⟨rfl, hp⟩
    refine ⟨_, rfl, a, rfl, ⟨_, h2⟩, ?_⟩
    refine for_it (walk_tup (xs := .str f.tag :: xs)) (fun i σ H3 => ∃ (L : Addr) (zs : List V) (o : Option V), σ = [some (.ref d), some (.ref a), some (.ref L), o] ∧ Same H2 H3 ∧ H3 L = some (.tup zs) ∧ PartsAt K H3 (((.inl (.str f.tag) :: parts f).take i).map (fillP fun h => (M.lookup h).map (lf M k))) zs) ⟨L0, [], none, rfl, Same.refl _, e0, trivial⟩ (fun i σ H3 _ ⟨_, _, _, _, h, _⟩ => Same.seqT h h2) (fun i x σ H3 H4 hi ⟨L, zs, o, eσ, s4, eL, pL⟩ y => ?_) (fun σ H3 ⟨L, zs, o, eσ, s4, eL, pL⟩ => ?_)
    · subst eσ
      obtain ⟨rfl, hx⟩ := yat _ _ _ _ y
      obtain ⟨p, hpi, hpx⟩ := (hp1.same s4).get hx
      have etk : (.inl (.str f.tag) :: parts f).take (i + 1) = (.inl (.str f.tag) :: parts f).take i ++ [p] := by rw [List.take_add_one, hpi] <;> rfl
      have hzl : zs.length ≤ 3 := by
        rw [pL.len, List.length_map, List.length_take, List.length_cons]
        omega
      have fin : ∀ (r : V) (H5 : Hp), Same H4 H5 → PartAt K H5 (fillP (fun h => (M.lookup h).map (lf M k)) p) r → ∀ (T : Addr), H5 T = none → rCatA K (.ref L) (.ref T) (upd H5 T (.tup [r])) fun z H6 => ∃ (L : Addr) (zs : List V) (o : Option V), [some (.ref d), some (.ref a), some z, some r] = [some (.ref d), some (.ref a), some (.ref L), o] ∧ Same H2 H6 ∧ H6 L = some (.tup zs) ∧ PartsAt K H6 (((.inl (.str f.tag) :: parts f).take (i + 1)).map (fillP fun h => (M.lookup h).map (lf M k))) zs := by
        intro r H5 s5 hr5 T hT
        have s6 := s5.trans (Same.upd (o := .tup [r]) hT)
        have e6 := s6 _ _ eL
        have pr : PartAt K (upd H5 T (.tup [r])) (fillP (fun h => (M.lookup h).map (lf M k)) p) r := hr5.same (Same.upd hT)
        have eT : (upd H5 T (.tup [r])) T = some (.tup [r]) := upd_same
        have p6 := pL.same s6
        generalize (upd H5 T (.tup [r])) = H6 at s6 e6 pr eT p6 ⊢
        rw [etk, List.map_append]
        refine ⟨L, T, zs, [r], rfl, rfl, sqT_of e6, sqT_of eT, by rw [sizeLine_eq]; simp; omega, fun hz => ?_, (fun _ h => nomatch h), fun hz _ q hq => ?_⟩
        · subst hz
          exact ⟨T, [r], _, rfl, s4.trans s6, eT, PartsAt.snoc pr p6⟩
        · have s7 := Same.upd (o := .tup (zs ++ [r])) hq
          exact ⟨q, _, _, rfl, (s4.trans s6).trans s7, upd_same, PartsAt.snoc (pr.same s7) (p6.same s7)⟩
      cases p with
      | inl v =>
        cases hpx
        have hpv : plainV x := by
          rcases List.mem_cons.mp (List.mem_of_getElem? hpi) with e | e
          · injection e with e
            rw [e]
            trivial
          · exact parts_plain e
        obtain ⟨ty, hty, hkk⟩ := plain_ty (K := K) (H := H4) hpv
        refine ⟨_, rfl, _, _, _, _, _, rfl, .ty "tuple", hty, hkk, _, rfl, ?_⟩
        refine ifF rfl ?_
        exact ⟨_, rfl, _, rfl, le_line (by simp), fun T hT => fin x H4 (Same.refl _) rfl T hT⟩
      | inr g =>
        refine ⟨_, rfl, _, _, _, _, _, rfl, .ty "tuple", FmAt.ty hpx, (by rfl), _, rfl, ?_⟩
        refine ifT rfl ?_
        have hg : Sum.inr g ∈ parts f := by
          rcases List.mem_cons.mp (List.mem_of_getElem? hpi) with e | e
          · cases e
          · exact e
        have hgd := parts_depth hg
        refine ⟨_, rfl, _, rfl, d, x, M, g, k, rfl, (hk.same s2).same s4, hpx, hh.part hg, by omega, fun r H5 s5 m5 => ?_⟩
        exact ⟨_, rfl, _, rfl, le_line (by simp), fun T hT => fin r H5 s5 m5 T hT⟩
    · subst eσ
      rw [List.take_of_length_le (by simp [exl])] at pL
      obtain ⟨pf1, pf2⟩ := parts_fill (g := fun h => (M.lookup h).map (lf M k)) c1
      match zs, pL with
      | z :: zs, ⟨hz, pL⟩ =>
        cases hz
        refine ⟨_, rfl, hQ _ H3 (s2.trans s4) ?_⟩
        rw [lf]
        refine FmAt.of_parts (sqT_of (xs := .str _ :: zs) ?_) (by rw [pf1]; exact pL)
        rw [pf2]
        exact eL
end
end Q41
set_option maxRecDepth 100000
set_option maxHeartbeats 4000000
/-! The law, 10: parts. -/
namespace Q41
open PySem PySem.Spec PyProof.Rows L2
section
variable {P : Program} {w : World} {K : PySem.W.Frag} {mg : Str → Option Value} {base : Heap} {f fA fM fD fR fN fS fI fF fP fL : Addr}
theorem sc_lpar : FnScope ["_law_kept", "_law_form_here", "_law_part"] ["_law_kept", "_law_form_here"] (defScope (top 43)) := mkScope
def spLpar (K : PySem.W.Frag) (D : Nat) : Sp := fun vs H Q _ => ∃ d v M f k, vs = [.ref d, v] ∧ KeptAt K H M d ∧ FmAt K H f v ∧ HtF M k f ∧ 5 * k + f.depth < D ∧ ∀ (i : Int) H', Same H H' → Q (.int i) H'
theorem has_lpar (T : TopDef K mg "_law_parts" (top 43) [] f) (g_isinstance : mg "isinstance" = none) (g_tuple : mg "tuple" = none) (g_sum : mg "sum" = none) : ∀ D, Has P w K mg base D "_law_parts" f ["_law_kept", "_law_form_here"] (spLpar K D) := by
  intro D
  induction D with
  | zero => exact mkHas T ⟨fun vs H Q E ⟨_, _, _, _, _, _, _, _, _, h, _⟩ => absurd h (Nat.not_lt_zero _), fun A outer s H args us vs Q E _ _ _ _ ⟨_, _, _, _, _, _, _, _, _, h, _⟩ => absurd h (Nat.not_lt_zero _)⟩ (T.d.bindsN fun _ _ _ _ _ _ us hl => match us, hl with | [_, _], _ => rfl)
  | succ D h__law_parts =>
    refine mkHas T ?_ (T.d.bindsN fun _ _ _ _ _ _ us hl => match us, hl with | [_, _], _ => rfl)
    refine T.d.ok (k := D) sc_lpar (fun vs H Q E ⟨_, _, _, _, _, e, _⟩ => by rw [e] <;> rfl) (fun cdv A outer s H vs Q E hr ⟨d, v, M, f, k, ev, hk, hf, hh, hD, hQ⟩ => ⟨_, PSs.nox (pss_cons (ps_if (PW.pt (pw_and (pt_cmpR op_eq (pe_ix (ixT K) (pv 1) pe_int (by intro _ _; rfl)) pe_str (nomark _)) (pw_and1 (pt_cmp (pc_din (hu_of hr) (pe_ix (ixT K) (pv 1) pe_int (by intro _ _; rfl)) (pv 0)))))) (pss_one (ps_ret (pe_hc h__law_parts (hr.mono (by omega)) rfl (pa_cons (pv 0) (pa_cons (pe_dget (hu_of hr) (pv 0) (pe_ix (ixT K) (pv 1) pe_int (by intro _ _; rfl)) (by intro _ _; rfl)) pa_nil))))) pss_nil) (pss_one (ps_ret (pe_op op_add pe_int (pe_callB (sumq K) rfl g_sum Boot.«sum» (pa_cons (pe_lc (own := [("_law_part", 2)]) rfl sc_lpar.nd (pit K (pv 1)) (mkBlk (N := ["_law_kept", "_law_form_here", "_law_part"]) (sc := defScope (top 43))) (fun _ _ _ _ _ => pg_name sc_lpar.nd (i := 2) rfl (.inl rfl)) (fun _ _ _ _ _ => (pts_one (pt_val (pe_callB (isi K) rfl g_isinstance Boot.«isinstance» (pa_cons (pv 2) (pa_cons (pe_bltn rfl g_tuple Boot.«tuple» (v := .ty "tuple") rfl) pa_nil)))))) (fun _ _ _ _ _ => (pe_hc h__law_parts (hr.mono (by omega)) rfl (pa_cons (pv 0) (pa_cons (pv 2) pa_nil))))) pa_nil)))))), ?_⟩)
    subst ev
    have G := hk.good
    have deep : tOp (rI0 fun i j => .int (i + j)) (tC (.int 1)) (tCB (rSum K) (tCons (tLc (iTup K (tVar 1)) (gName 2) (tTest (tCB (rIsi K) (tCons (tVar 2) (tCons (tC (.ty "tuple")) tNil)))) (tCall (spLpar K D) [] E0 (tCons (tVar 0) (tCons (tVar 2) tNil))) [2]) tNil)) [some (.ref d), some v, none] H Q := by
      obtain ⟨a, xs, rfl, h2, hp⟩ := hf.parts
      have hpl := parts_len f
      have exl := hp.len
      have hp1 : PartsAt K H (.inl (.str f.tag) :: parts f) (.str f.tag :: xs) := ⟨rfl, hp⟩
      refine ⟨_, rfl, a, rfl, ⟨_, h2⟩, fun L hL => ?_⟩
      refine lc_it (walk_tup (xs := .str f.tag :: xs)) (fun i H1 => Same H H1 ∧ ∃ ns : List Int, H1 L = some (.lst (ns.map V.int)) ∧ ns.length ≤ i) ⟨Same.upd hL, [], upd_same, Nat.le_refl _⟩ (fun i H1 _ h => Same.seqT h.1 h2) (fun i x H1 H2 hi ⟨s1, ns, eL, hn⟩ y => ?_) (fun H1 ⟨s1, ns, eL, hn⟩ => ?_)
      · obtain ⟨rfl, hx⟩ := yat _ _ _ _ y
        obtain ⟨p, hpi, hpx⟩ := (hp1.same s1).get hx
        cases p with
        | inl v =>
          cases hpx
          have hpv : plainV x := by
            rcases List.mem_cons.mp (List.mem_of_getElem? hpi) with e | e
            · injection e with e
              rw [e]
              trivial
            · exact parts_plain e
          obtain ⟨ty, hty, hkk⟩ := plain_ty (K := K) (H := H2) hpv
          refine ⟨rfl, _, rfl, _, _, _, _, _, rfl, .ty "tuple", hty, hkk, _, rfl, ?_⟩
          exact ifF rfl ⟨s1, ns, eL, by omega⟩
        | inr g =>
          have hg : Sum.inr g ∈ parts f := by
            rcases List.mem_cons.mp (List.mem_of_getElem? hpi) with e | e
            · cases e
            · exact e
          have hgd := parts_depth hg
          refine ⟨rfl, _, rfl, _, _, _, _, _, rfl, .ty "tuple", FmAt.ty hpx, (by rfl), _, rfl, ?_⟩
          refine ifT rfl ?_
          refine ⟨_, rfl, _, rfl, d, x, M, g, k, rfl, hk.same s1, hpx, hh.part hg, by omega, fun z H5 s5 => ?_⟩
          refine ⟨_, s5 _ _ eL, ?_, (s1.trans s5).over hL, ns ++ [z], ?_, ?_⟩
          · rw [List.length_map, sizeLine_eq]
            simp only [List.length_cons] at hi
            omega
          · rw [upd_same]
            simp
          · rw [List.length_append, List.length_singleton]
            omega
      · exact ⟨L, ns, rfl, sqL_of eL, _, _, rfl, rfl, hQ _ H1 s1⟩
    by_cases c1 : f.tag = "hole"
    · refine rd_eq (i := 1) rfl hf (ifT (decide_eq_true c1) ?_)
      cases f with
      | hol n =>
        obtain ⟨a, rfl, h2⟩ := id hf
        obtain ⟨o, ho, eo⟩ := hk.in_ n
        refine ⟨_, rfl, a, _, 1, _, rfl, rfl, h2, rfl, _, rfl, d, o, rfl, ho, ?_⟩
        rw [eo]
        refine ⟨_, rfl, ?_⟩
        by_cases hn : n ∈ keys M
        · refine ifT (decide_eq_true hn) ?_
          obtain ⟨f2, hf2⟩ := lookup_some.mpr hn
          obtain ⟨u, hg, hu⟩ := hk.get hf2
          have ht := hh n (by simp [Fm.holes]) hn
          cases k with
          | zero => exact ht.elim
          | succ k =>
            have hd2 : f2.depth ≤ 3 := G.dp _ (mem_of_get hf2)
            exact ⟨_, rfl, _, rfl, _, rfl, a, _, 1, _, rfl, rfl, h2, rfl, d, u, rfl, hg, d, u, M, f2, k, rfl, hk, hu, ht_htF ht hf2, by omega, hQ⟩
        · exact ifF (decide_eq_false hn) deep
      | _ => exact absurd c1 (by simp only [Fm.tag]; decide +kernel)
    exact rd_eq (i := 1) rfl hf (ifF (decide_eq_false c1) deep)
end
end Q41
set_option maxRecDepth 100000
set_option maxHeartbeats 4000000
/-! The law, 11: due, is_asked. -/
namespace Q41
open PySem PySem.Spec PyProof.Rows L2

def inR (M : Kp) (v : V) : Option V := match v with
  | .str z => if z ∈ ledL M z then some v else none
  | _ => none
theorem inR_map (M : Kp) (l : List Str) : (l.map V.str).filterMap (inR M) = (l.filter fun x => decide (x ∈ ledL M x)).map V.str := by
  induction l with
  | nil => rfl
  | cons x l ih =>
    rw [List.map_cons, List.filterMap_cons, List.filter_cons, ih]
    by_cases h : x ∈ ledL M x
    · rw [inR, if_pos h, if_pos (decide_eq_true h)]
      rfl
    · rw [inR, if_neg h, if_neg (by simpa using h)]
section
variable {P : Program} {w : World} {K : PySem.W.Frag} {mg : Str → Option Value} {base : Heap} {f fA fM fD fR fN fS fI fF fP fL : Addr}
theorem sc_ldue : FnScope ["_law_kept", "_law_name", "_law_there", "_law_round_names", "_law_other"] ["_law_kept", "_law_name"] (defScope (top 44)) := mkScope
def spLdue (K : PySem.W.Frag) : Sp := fun vs H Q _ => ∃ d n M f, vs = [.ref d, .str n] ∧ KeptAt K H M d ∧ M.lookup n = some f ∧ M.length ≤ 5 ∧
  (circ M n ≠ [] → ∀ l q H', Same H H' → H' l = some (.lst [.str "round", .ref q]) → H' q = some (.tup ((circ M n).map .str)) → Q (.ref l) H') ∧ (circ M n = [] → ∀ l r H', Same H H' → H' l = some (.lst [.str "form", r]) → FmAt K H' (lf M 30 f) r → Q (.ref l) H')
theorem has_ldue (T : TopDef K mg "_law_due" (top 44) [] f) (g_set : mg "set" = none) (g_sorted : mg "sorted" = none) (g_tuple : mg "tuple" = none) (h__law_led : Has P w K mg base 7 "_law_led" fL ["_law_kept", "_law_name"] (spLled K)) (h__law_filled : Has P w K mg base 24 "_law_filled" fF ["_law_kept", "_law_form_here"] (spLfil K 24)) : Has P w K mg base 25 "_law_due" f ["_law_kept", "_law_name"] (spLdue K) := by
  refine mkHas T ?_ (T.d.bindsN fun _ _ _ _ _ _ us hl => match us, hl with | [_, _], _ => rfl)
  refine T.d.ok sc_ldue (fun vs H Q E ⟨_, _, _, _, e, _⟩ => by rw [e] <;> rfl) (fun cdv A outer s H vs Q E hr ⟨d, n, M, f, ev, hk, hf, hM, hQ1, hQ2⟩ => ⟨_, PSs.nox (pss_cons (ps_set (i := 2) sc_ldue.nd rfl (.inl rfl) (pe_callB (srtT w) rfl g_sorted Boot.«sorted» (pa_cons (pe_callTy (setq K w) rfl g_set Boot.«set» (pa_cons (pe_op op_cat (pe_lst (pa_cons (pv 1) pa_nil)) (pe_hc h__law_led (hr.mono (by omega)) rfl (pa_cons (pv 0) (pa_cons (pv 1) pa_nil)))) pa_nil)) pa_nil))) (pss_cons (ps_setLc (i := 3) (own := [("_law_other", 4)]) rfl sc_ldue.nd rfl rfl (sw_true rfl rfl rfl rfl) (pil K (pv 2)) (mkBlk (N := ["_law_kept", "_law_name", "_law_there", "_law_round_names", "_law_other"]) (sc := defScope (top 44))) (fun _ _ _ _ _ => pg_name sc_ldue.nd (i := 4) rfl (.inl rfl)) (fun _ _ _ _ _ => (pts_one (pt_cmpR (inq K) (pv 4) (pe_hc h__law_led (hr.mono (by omega)) rfl (pa_cons (pv 0) (pa_cons (pv 4) pa_nil))) rfl))) (fun _ _ _ _ _ => (pv 4))) (pss_cons (ps_if (pt_cmpR (neD K rfl (units64 hr)) (pv 3) (pe_lst pa_nil) (nomark _)) (pss_one (ps_ret (pe_lst (pa_cons pe_str (pa_cons (tupq K rfl g_tuple (pv 3)) pa_nil))))) pss_nil) (pss_one (ps_ret (pe_lst (pa_cons pe_str (pa_cons (pe_hc h__law_filled (hr.mono (by omega)) rfl (pa_cons (pv 0) (pa_cons (pe_dget (hu_of hr) (pv 0) (pv 1) (by intro _ _; rfl)) pa_nil))) pa_nil)))))))), ?_⟩)
  subst ev
  have G := hk.good
  have hkL := keys_len (M := M)
  have hn : n ∈ keys M := lookup_some.mp ⟨f, hf⟩
  refine ⟨_, rfl, le_line (by simp), fun p hp => ?_⟩
  have s1 := Same.upd (o := .lst [.str n]) hp
  refine ⟨_, rfl, _, rfl, d, n, M, rfl, hk.same s1, hn, fun l H1 s2 hl e1 => ?_⟩
  have hll := ledL_len (M := M) (n := n)
  refine ⟨p, l, [.str n], _, rfl, rfl, s2 _ _ upd_same, e1, by rw [List.length_map, sizeLine_eq]; simp; omega, fun c hc => ?_⟩
  have s3 := (s1.trans s2).trans (Same.upd (o := .lst ([.str n] ++ (ledL M n).map V.str)) hc)
  have e3 : (upd H1 c (.lst ([.str n] ++ (ledL M n).map V.str))) c = some (.lst ((n :: ledL M n).map V.str)) := upd_same
  generalize (upd H1 c (.lst ([.str n] ++ (ledL M n).map V.str))) = H2 at s3 e3 ⊢
  refine ⟨c, _, rfl, sqL_of e3, Nat.lt_of_le_of_lt (by rw [List.length_cons]; omega : _ ≤ 50) (by decide), fun S hS => ?_⟩
  have s4 := s3.trans (Same.upd (o := SetTO w S (n :: ledL M n)) hS)
  refine ⟨S, _, rfl, upd_same, by rw [List.length_cons]; omega, fun ys q h1 h2 h3 h4 hq => ?_⟩
  have ey : ys = nrm (n :: ledL M n) := nrm_eq h1 h2 h3
  subst ey
  have s5 := s4.trans (Same.upd (o := .lst ((nrm (n :: ledL M n)).map V.str)) hq)
  have e5 : (upd (upd H2 S (SetTO w S (n :: ledL M n))) q (.lst ((nrm (n :: ledL M n)).map V.str))) q = some (.lst ((nrm (n :: ledL M n)).map V.str)) := upd_same
  generalize (upd (upd H2 S (SetTO w S (n :: ledL M n))) q (.lst ((nrm (n :: ledL M n)).map V.str))) = H3 at s5 e5 ⊢
  have htl : (nrm (n :: ledL M n)).length ≤ 6 := Nat.le_trans nrm_length (by rw [List.length_cons]; omega)
  have htk : ∀ x ∈ nrm (n :: ledL M n), x ∈ keys M := fun x hx => by
    rcases List.mem_cons.mp (nrm_mem.mp hx) with rfl | h
    · exact hn
    · exact ledL_keys h
  refine ⟨_, rfl, q, rfl, ⟨_, sqL_of e5⟩, fun L hL => ?_⟩
  refine lc_same walk_list (inR M) rfl (by rw [List.length_map]; omega) hL (fun H4 s4 => sqL_of (s4 _ _ e5)) yat (fun x hx H4 s4 Q4 q4 => ?_) fun H4 s6 e6 => ?_
  · obtain ⟨z, hz, rfl⟩ := List.mem_map.mp hx
    have hzk : z ∈ keys M := htk z hz
    refine ⟨rfl, _, rfl, _, rfl, _, rfl, d, z, M, rfl, hk.same (s5.trans s4), hzk, fun U H5 s5 hU e5 => ?_⟩
    refine ⟨U, _, rfl, .inl (sqL_of e5), rfl, flat_strs _, _, rfl, ?_⟩
    rw [inV_str]
    by_cases c : z ∈ ledL M z
    · refine ifT (c := if false = true then !decide (z ∈ ledL M z) else decide (z ∈ ledL M z)) (by simpa using c) ⟨_, rfl, ?_⟩
      have := q4 H5 s5
      rwa [inR, if_pos c] at this
    · refine ifF (c := if false = true then !decide (z ∈ ledL M z) else decide (z ∈ ledL M z)) (by simpa using c) ?_
      have := q4 H5 s5
      rwa [inR, if_neg c] at this
  · rw [inR_map] at e6
    change H4 L = some (.lst ((circ M n).map V.str)) at e6
    have s7 := s5.trans s6
    have okc : ∀ y ∈ circ M n, PyData.strOk y = true := fun y hy => nameOk_str (G.names y (ledL_keys (circ_mem.mp hy).2))
    refine ⟨_, rfl, by rw [sizeLine_eq]; exact Nat.zero_le _, fun p hp => ?_⟩
    have s8 := s7.trans (Same.upd (o := .lst []) hp)
    have e8 := (Same.upd (o := .lst []) hp) _ _ e6
    refine ne_nil (sqL_of e8) (sqL_of upd_same) okc ⟨_, rfl, ?_⟩
    by_cases hc : circ M n = []
    · refine ifF (c := !decide (circ M n = [])) (by simpa using hc) ?_
      obtain ⟨v, hg, hv⟩ := (hk.same s8).get hf
      have ht := ht_of hn hc
      have hdp : f.depth ≤ 3 := G.dp _ (mem_of_get hf)
      obtain ⟨kk, ekk⟩ : ∃ kk, (keys M).length = kk + 1 := ⟨(keys M).length - 1, by have := List.length_pos_of_mem hn; omega⟩
      rw [ekk] at ht
      have hh := ht_htF ht hf
      refine ⟨_, rfl, _, rfl, _, rfl, d, v, rfl, hg, d, v, M, f, kk, rfl, hk.same s8, hv, hh, by omega, fun r H5 s9 m9 => ?_⟩
      refine ⟨le_line (by simp), fun t ht2 => ?_⟩
      have s10 := Same.upd (o := .lst [.str "form", r]) ht2
      rw [← lf_stable hh (by omega : kk ≤ 29)] at m9
      exact hQ2 hc t r _ ((s8.trans s9).trans s10) upd_same (m9.same s10)
    · refine ifT (c := !decide (circ M n = [])) (by simpa using hc) ?_
      refine ⟨_, rfl, .inl ⟨L, _, rfl, sqL_of e8, fun q hq => ?_⟩⟩
      have s9 := s8.trans (Same.upd (o := .tup ((circ M n).map V.str)) hq)
      refine ⟨le_line (by simp), fun t ht => ?_⟩
      have s10 := Same.upd (o := .lst [.str "round", .ref q]) ht
      exact hQ1 hc t q _ (s9.trans s10) upd_same (s10 _ _ upd_same)
theorem sc_lask : FnScope ["_law_kept", "_law_name", "_law_there", "_law_other"] ["_law_kept", "_law_name"] (defScope (top 45)) := mkScope
def spLask (K : PySem.W.Frag) : Sp := fun vs H Q _ => ∃ d n M, vs = [.ref d, .str n] ∧ KeptAt K H M d ∧ n ∈ keys M ∧ M.length ≤ 5 ∧ ∀ b H', Same H H' → Q (.bl b) H'
theorem has_lask (T : TopDef K mg "_law_is_asked" (top 45) [] f) (h__law_led : Has P w K mg base 7 "_law_led" fL ["_law_kept", "_law_name"] (spLled K)) (h__law_parts : Has P w K mg base 24 "_law_parts" fF ["_law_kept", "_law_form_here"] (spLpar K 24)) : Has P w K mg base 25 "_law_is_asked" f ["_law_kept", "_law_name"] (spLask K) := by
  refine mkHas T ?_ (T.d.bindsN fun _ _ _ _ _ _ us hl => match us, hl with | [_, _], _ => rfl)
  refine T.d.ok sc_lask (fun vs H Q E ⟨_, _, _, e, _⟩ => by rw [e] <;> rfl) (fun cdv A outer s H vs Q E hr ⟨d, n, M, ev, hk, hn, hM, hQ⟩ => ⟨_, PSs.nox (pss_cons (ps_set (i := 2) sc_lask.nd rfl (.inl rfl) (pe_op op_cat (pe_lst (pa_cons (pv 1) pa_nil)) (pe_hc h__law_led (hr.mono (by omega)) rfl (pa_cons (pv 0) (pa_cons (pv 1) pa_nil))))) (pss_cons (ps_if (pt_cmpR (neD K rfl (units64 hr)) (pe_lc (own := [("_law_other", 3)]) rfl sc_lask.nd (pil K (pv 2)) (mkBlk (N := ["_law_kept", "_law_name", "_law_there", "_law_other"]) (sc := defScope (top 45))) (fun _ _ _ _ _ => pg_name sc_lask.nd (i := 3) rfl (.inl rfl)) (fun _ _ _ _ _ => (pts_one (pt_cmpR (inq K) (pv 3) (pe_hc h__law_led (hr.mono (by omega)) rfl (pa_cons (pv 0) (pa_cons (pv 3) pa_nil))) rfl))) (fun _ _ _ _ _ => (pv 3))) (pe_lst pa_nil) (nomark _)) (pss_one (ps_ret pe_bl)) pss_nil) (pss_one (ps_ret (pe_cmpR op_le (pe_hc h__law_parts (hr.mono (by omega)) rfl (pa_cons (pv 0) (pa_cons (pe_dget (hu_of hr) (pv 0) (pv 1) (by intro _ _; rfl)) pa_nil))) pe_int (nomark _)))))), ?_⟩)
  subst ev
  have G := hk.good
  have hkL := keys_len (M := M)
  obtain ⟨f, hf⟩ := lookup_some.mpr hn
  refine ⟨_, rfl, le_line (by simp), fun p hp => ?_⟩
  have s1 := Same.upd (o := .lst [.str n]) hp
  refine ⟨_, rfl, _, rfl, d, n, M, rfl, hk.same s1, hn, fun l H1 s2 hl e1 => ?_⟩
  have hll := ledL_len (M := M) (n := n)
  refine ⟨p, l, [.str n], _, rfl, rfl, s2 _ _ upd_same, e1, by rw [List.length_map, sizeLine_eq]; simp; omega, fun c hc => ?_⟩
  have s3 := (s1.trans s2).trans (Same.upd (o := .lst ([.str n] ++ (ledL M n).map V.str)) hc)
  have e3 : (upd H1 c (.lst ([.str n] ++ (ledL M n).map V.str))) c = some (.lst ((n :: ledL M n).map V.str)) := upd_same
  generalize (upd H1 c (.lst ([.str n] ++ (ledL M n).map V.str))) = H3 at s3 e3 ⊢
  refine ⟨_, rfl, c, rfl, ⟨_, sqL_of e3⟩, fun L hL => ?_⟩
  refine lc_same walk_list (inR M) rfl (by rw [List.length_map, List.length_cons]; omega) hL (fun H4 s4 => sqL_of (s4 _ _ e3)) yat (fun x hx H4 s4 Q4 q4 => ?_) fun H4 s6 e6 => ?_
  · obtain ⟨z, hz, rfl⟩ := List.mem_map.mp hx
    have hzk : z ∈ keys M := (by
      rcases List.mem_cons.mp hz with rfl | h
      · exact hn
      · exact ledL_keys h)
    refine ⟨rfl, _, rfl, _, rfl, _, rfl, d, z, M, rfl, hk.same (s3.trans s4), hzk, fun U H5 s5 hU e5 => ?_⟩
    refine ⟨U, _, rfl, .inl (sqL_of e5), rfl, flat_strs _, _, rfl, ?_⟩
    rw [inV_str]
    by_cases c : z ∈ ledL M z
    · refine ifT (c := if false = true then !decide (z ∈ ledL M z) else decide (z ∈ ledL M z)) (by simpa using c) ⟨_, rfl, ?_⟩
      have := q4 H5 s5
      rwa [inR, if_pos c] at this
    · refine ifF (c := if false = true then !decide (z ∈ ledL M z) else decide (z ∈ ledL M z)) (by simpa using c) ?_
      have := q4 H5 s5
      rwa [inR, if_neg c] at this
  · rw [inR_map] at e6
    have s7 := s3.trans s6
    have okc : ∀ y ∈ (n :: ledL M n).filter fun x => decide (x ∈ ledL M x), PyData.strOk y = true := fun y hy => nameOk_str (G.names y (ledL_keys (of_decide_eq_true (List.mem_filter.mp hy).2)))
    have hcc : ((n :: ledL M n).filter fun x => decide (x ∈ ledL M x)) = [] ↔ circ M n = [] := by
      rw [List.eq_nil_iff_forall_not_mem, List.eq_nil_iff_forall_not_mem]
      refine forall_congr' fun x => not_congr ?_
      rw [circ_mem, List.mem_filter, decide_eq_true_eq, List.mem_cons]
    generalize ((n :: ledL M n).filter fun x => decide (x ∈ ledL M x)) = C at e6 okc hcc
    refine ⟨by rw [sizeLine_eq]; exact Nat.zero_le _, fun p hp => ?_⟩
    have s8 := s7.trans (Same.upd (o := .lst []) hp)
    have e8 := (Same.upd (o := .lst []) hp) _ _ e6
    refine ne_nil (sqL_of e8) (sqL_of upd_same) okc ⟨_, rfl, ?_⟩
    by_cases hc : C = []
    · refine ifF (c := !decide (C = [])) (by simpa using hc) ?_
      obtain ⟨v, hg, hv⟩ := (hk.same s8).get hf
      have ht := ht_of hn (hcc.mp hc)
      have hdp : f.depth ≤ 3 := G.dp _ (mem_of_get hf)
      obtain ⟨kk, ekk⟩ : ∃ kk, (keys M).length = kk + 1 := ⟨(keys M).length - 1, by have := List.length_pos_of_mem hn; omega⟩
      rw [ekk] at ht
      have hh := ht_htF ht hf
      refine ⟨_, rfl, _, rfl, _, rfl, d, v, rfl, hg, d, v, M, f, kk, rfl, hk.same s8, hv, hh, by omega, fun i H5 s9 => ?_⟩
      exact ⟨_, _, rfl, rfl, hQ _ H5 (s8.trans s9)⟩
    · refine ifT (c := !decide (C = [])) (by simpa using hc) ?_
      exact hQ true _ s8
end
end Q41
set_option maxRecDepth 100000
set_option maxHeartbeats 4000000
/-! The law, 12: order. -/
namespace Q41
open PySem PySem.Spec PyProof.Rows L2

def env00 (sc : Scope) : Env := envOfC "" sc 0 0 .none
theorem BlkOk.re {N : List Str} {S scope sc : Scope} {own : List (Str × Nat)} {env : Env} (h : env.scope = sc) (k : BlkOk N (relabel S (env00 sc)) scope own) : BlkOk N (relabel S env) scope own := by
  subst h
  exact k
def filS (p : Str → Bool) (v : V) : Option V := match v with
  | .str z => if p z = true then some v else none
  | _ => none
theorem filS_map (p : Str → Bool) (l : List Str) : (l.map V.str).filterMap (filS p) = (l.filter p).map V.str := by
  induction l with
  | nil => rfl
  | cons x l ih =>
    rw [List.map_cons, List.filterMap_cons, List.filter_cons, ih]
    by_cases h : p x = true
    · rw [filS, if_pos h, if_pos h]
      rfl
    · rw [filS, if_neg h, if_neg h]
theorem filS_pos {p : Str → Bool} {z : Str} (h : p z = true) : filS p (.str z) = some (.str z) := if_pos h
theorem filS_neg {p : Str → Bool} {z : Str} (h : p z = false) : filS p (.str z) = none := if_neg (by rw [h]; exact Bool.false_ne_true)
theorem ordTN_next (M : Kp) : ∀ (k : Nat) (done : List Str), ordTN M (k + 1) done = ordT M (ordTN M k done)
  | 0, _ => rfl
  | k + 1, done => by
    rw [ordTN, ordTN_next M k (ordT M done)]
    rfl
theorem ordT_len (M : Kp) (done : List Str) : (ordT M done).length ≤ done.length + 1 := by
  unfold ordT
  rw [List.length_append, List.length_take]
  omega
theorem free2 (M : Kp) (done : List Str) : ((nrm (keys M)).filter fun x => !decide (x ∈ done)).filter (fun x => decide (((used M x).filter fun h => !decide (h ∈ done)) = [])) = (nrm (keys M)).filter (isFree M done) := by
  rw [List.filter_filter]
  refine List.filter_congr fun x _ => ?_
  unfold isFree
  rw [Bool.and_comm]
  congr 1
  · simp
  · rw [Bool.eq_iff_iff]
    simp [List.filter_eq_nil_iff]
section
variable {P : Program} {w : World} {K : PySem.W.Frag} {mg : Str → Option Value} {base : Heap} {f fA fM fD fR fN fS fI fF fP fL : Addr}
theorem sc_lord : FnScope ["_law_kept", "_law_done", "_law_turn", "_law_free", "_law_name", "_law_other"] ["_law_kept"] (defScope (top 41)) := mkScope
def spLord (K : PySem.W.Frag) : Sp := fun vs H Q _ => ∃ d M, vs = [.ref d] ∧ KeptAt K H M d ∧ ∀ l H', Same H H' → H l = none → H' l = some (.lst ((ord M).map .str)) → Q (.ref l) H'
theorem has_lord (T : TopDef K mg "_law_order" (top 41) [] f) (g_sorted : mg "sorted" = none) (g_len : mg "len" = none) (g_range : mg "range" = none) (h__law_used : Has P w K mg base 6 "_law_used" fN ["_law_kept", "_law_name"] (spLused K)) : Has P w K mg base 7 "_law_order" f ["_law_kept"] (spLord K) := by
  refine mkHas T ?_ (T.d.bindsN fun _ _ _ _ _ _ us hl => match us, hl with | [_], _ => rfl)
  refine T.d.ok sc_lord (fun vs H Q E ⟨_, _, e, _⟩ => by rw [e] <;> rfl) (fun cdv A outer s H vs Q E hr ⟨d, M, ev, hk, hQ⟩ => ⟨_, PSs.nox (pss_cons (ps_set (i := 1) sc_lord.nd rfl (.inr rfl) (pe_lst pa_nil)) (pss_cons (ps_for PassesOwn.never rfl (pi_range1 rfl g_range (pa_cons (pe_callB cr_lenRd rfl g_len Boot.«len» (pa_cons (pv 0) pa_nil)) pa_nil)) (pg_name sc_lord.nd (i := 2) rfl (.inl rfl)) (pss_cons (ps_setLc (i := 3) (own := [("_law_name", 4)]) rfl sc_lord.nd rfl rfl (sw_true rfl rfl rfl rfl) (pil K (pe_callB (call_sortedD rfl) rfl g_sorted Boot.«sorted» (pa_cons (pv 0) pa_nil))) (mkBlk (N := ["_law_kept", "_law_done", "_law_turn", "_law_free", "_law_name", "_law_other"]) (sc := defScope (top 41))) (fun _ _ _ _ _ => pg_name sc_lord.nd (i := 4) rfl (.inl rfl)) (fun _ _ _ _ _ => (pts_one (pt_cmpR (ninq K) (pv 4) (pv 1) rfl))) (fun _ _ _ _ _ => (pv 4))) (pss_cons (ps_setLc (i := 3) (own := [("_law_name", 4)]) rfl sc_lord.nd rfl rfl (sw_true rfl rfl rfl rfl) (pil K (pv 3)) (mkBlk (N := ["_law_kept", "_law_done", "_law_turn", "_law_free", "_law_name", "_law_other"]) (sc := defScope (top 41))) (fun _ _ _ _ _ => pg_name sc_lord.nd (i := 4) rfl (.inl rfl)) (fun _ _ _ _ _ => (pts_one (pt_cmpR (eqD K rfl (units64 hr)) (pe_lc (own := [("_law_other", 5)]) rfl sc_lord.nd (pil K (pe_hc h__law_used (hr.mono (by omega)) rfl (pa_cons (pv 0) (pa_cons (pv 4) pa_nil)))) (BlkOk.re (sc := defScope (top 41)) rfl (mkBlk (N := ["_law_kept", "_law_done", "_law_turn", "_law_free", "_law_name", "_law_other"]))) (fun _ _ _ _ _ => pg_name sc_lord.nd (i := 5) rfl (.inl rfl)) (fun _ _ _ _ _ => (pts_one (pt_cmpR (ninq K) (pv 5) (pv 1) rfl))) (fun _ _ _ _ _ => (pv 5))) (pe_lst pa_nil) (nomark _)))) (fun _ _ _ _ _ => (pv 4))) (pss_one (ps_set (i := 1) sc_lord.nd rfl (.inr rfl) (pe_op op_cat (pv 1) (pe_slice (sll K) (pv 3) po_none (po_some pe_int)))))))) (pss_one (ps_ret (pv 1))))), ?_⟩)
  subst ev
  have G := hk.good
  have hML := G.len
  have hkL := keys_len (M := M)
  refine ⟨le_line (by simp), fun D0 hD0 => ?_⟩
  have s1 := Same.upd (o := .lst []) hD0
  have e0 : (upd H D0 (.lst [])) D0 = some (.lst ((ordTN M 0 []).map .str)) := upd_same
  generalize (upd H D0 (.lst [])) = H1 at s1 e0 ⊢
  obtain ⟨kvs, hkv, ekv⟩ := (hk.same s1).len
  refine ⟨_, rfl, d, kvs, rfl, hkv, _, rfl, by omega, by omega, ?_⟩
  rw [show ((kvs.length : Int)).toNat = M.length by omega]
  refine for_range (fun i σ H2 => ∃ (L : Addr) (o p q r : Option V), σ = [some (.ref d), some (.ref L), o, p, q, r] ∧ Same H H2 ∧ H L = none ∧ H2 L = some (.lst ((ordTN M i []).map .str)) ∧ (ordTN M i []).length ≤ i) ⟨D0, none, none, none, none, rfl, s1, hD0, e0, Nat.le_refl _⟩ (fun i σ H2 hi ⟨L, o, p, q, r, eσ, s2, hL, eL, lL⟩ => ?_) (fun σ H2 ⟨L, o, p, q, r, eσ, s2, hL, eL, _⟩ => ?_)
  · subst eσ
    have eN := ordTN_next M i []
    generalize ordTN M i [] = done at *
    have lT := ordT_len M done
    obtain ⟨ws, hws, hfm⟩ := (hk.same s2).at_
    refine ⟨_, rfl, d, _, keys M, rfl, hws, by rw [asKeysV_keys, hfm.keys], by omega, fun ys Y hp hs hY => ?_⟩
    have ey : ys = nrm (keys M) := perm_nrm hp hs G.nd
    subst ey
    have s3 := s2.trans (Same.upd (o := .lst ((nrm (keys M)).map V.str)) hY)
    have eY : (upd H2 Y (.lst ((nrm (keys M)).map V.str))) Y = some (.lst ((nrm (keys M)).map V.str)) := upd_same
    have eL3 := (Same.upd (o := .lst ((nrm (keys M)).map V.str)) hY) _ _ eL
    generalize (upd H2 Y (.lst ((nrm (keys M)).map V.str))) = H3 at s3 eY eL3 ⊢
    have lk : (nrm (keys M)).length ≤ 30 := Nat.le_trans nrm_length (by omega)
    refine ⟨Y, rfl, ⟨_, sqL_of eY⟩, fun F1 hF1 => ?_⟩
    refine lc_same walk_list (filS fun x => !decide (x ∈ done)) rfl (by rw [List.length_map]; omega) hF1 (fun H4 s4 => sqL_of (s4 _ _ eY)) yat (fun x hx H4 s4 Q4 q4 => ?_) fun H4 s4 e4 => ?_
    · obtain ⟨z, hz, rfl⟩ := List.mem_map.mp hx
      refine ⟨rfl, _, rfl, _, rfl, L, _, rfl, .inl (sqL_of (s4 _ _ eL3)), rfl, flat_strs _, _, rfl, ?_⟩
      rw [inV_str]
      have e : (if true = true then !decide (z ∈ done) else decide (z ∈ done)) = !decide (z ∈ done) := rfl
      rw [e]
      have := q4 H4 (Same.refl _)
      cases c : !decide (z ∈ done) with
      | true =>
        rw [filS_pos c] at this
        exact ifT rfl ⟨_, rfl, this⟩
      | false =>
        rw [filS_neg c] at this
        exact ifF rfl this
    rw [filS_map] at e4
    have s34 := s3.trans s4
    have eL4 := s4 _ _ eL3
    have lF1 : ((nrm (keys M)).filter fun x => !decide (x ∈ done)).length ≤ 30 := Nat.le_trans (List.length_filter_le _ _) lk
    have hF1k : ∀ x ∈ (nrm (keys M)).filter fun x => !decide (x ∈ done), x ∈ keys M := fun x hx => nrm_mem.mp (List.mem_filter.mp hx).1
    have ef2 := free2 M done
    generalize ((nrm (keys M)).filter fun x => !decide (x ∈ done)) = W1 at e4 lF1 hF1k ef2
    refine ⟨_, rfl, F1, rfl, ⟨_, sqL_of e4⟩, fun F2 hF2 => ?_⟩
    refine lc_same walk_list (filS fun x => decide (((used M x).filter fun h => !decide (h ∈ done)) = [])) rfl (by rw [List.length_map]; omega) hF2 (fun H5 s5 => sqL_of (s5 _ _ e4)) yat (fun x hx H5 s5 Q5 q5 => ?_) fun H5 s5 e5 => ?_
    · obtain ⟨z, hz, rfl⟩ := List.mem_map.mp hx
      obtain ⟨f2, hf2⟩ := lookup_some.mpr (hF1k z hz)
      have hul := used_len G z
      refine ⟨rfl, _, rfl, _, rfl, d, z, M, f2, rfl, hk.same (s34.trans s5), hf2, fun U H6 s6 hU e6 => ?_⟩
      have s56 := s5.trans s6
      refine ⟨U, rfl, ⟨_, sqL_of e6⟩, fun L2 hL2 => ?_⟩
      refine lc_same walk_list (filS fun h => !decide (h ∈ done)) rfl (by rw [List.length_map]; omega) hL2 (fun H7 s7 => sqL_of (s7 _ _ e6)) yat (fun y hy H7 s7 Q7 q7 => ?_) fun H7 s7 e7 => ?_
      · obtain ⟨t, ht, rfl⟩ := List.mem_map.mp hy
        refine ⟨rfl, _, rfl, _, rfl, L, _, rfl, .inl (sqL_of ((s56.trans s7) _ _ eL4)), rfl, flat_strs _, _, rfl, ?_⟩
        rw [inV_str]
        have e : (if true = true then !decide (t ∈ done) else decide (t ∈ done)) = !decide (t ∈ done) := rfl
        rw [e]
        have := q7 H7 (Same.refl _)
        cases c : !decide (t ∈ done) with
        | true =>
          rw [filS_pos c] at this
          exact ifT rfl ⟨_, rfl, this⟩
        | false =>
          rw [filS_neg c] at this
          exact ifF rfl this
      · rw [filS_map] at e7
        refine ⟨by rw [sizeLine_eq]; exact Nat.zero_le _, fun e he => ?_⟩
        have s8 := Same.upd (o := .lst []) he
        have okw : ∀ y ∈ (used M z).filter fun h => !decide (h ∈ done), PyData.strOk y = true := fun y hy => nameOk_str (G.names y (used_keys (List.mem_filter.mp hy).1))
        refine eq_nil (sqL_of (s8 _ _ e7)) (sqL_of upd_same) okw ⟨_, rfl, ?_⟩
        have := q5 _ ((s6.trans s7).trans s8)
        cases c : decide (((used M z).filter fun h => !decide (h ∈ done)) = []) with
        | true =>
          rw [filS_pos c] at this
          exact ifT rfl ⟨_, rfl, this⟩
        | false =>
          rw [filS_neg c] at this
          exact ifF rfl this
    rw [filS_map, ef2] at e5
    have s35 := s34.trans s5
    have eL5 := s5 _ _ eL4
    have lF2 : ((nrm (keys M)).filter (isFree M done)).length ≤ 30 := Nat.le_trans (List.length_filter_le _ _) lk
    have eT : ordT M done = done ++ ((nrm (keys M)).filter (isFree M done)).take 1 := rfl
    generalize ((nrm (keys M)).filter (isFree M done)) = W2 at e5 lF2 eT
    refine ⟨_, rfl, _, rfl, 1, rfl, F2, _, rfl, sqL_of e5, fun C hC => ?_⟩
    have s6 := s35.trans (Same.upd (o := .lst (cutV (W2.map V.str) none (some 1))) hC)
    have eL6 := (Same.upd (o := .lst (cutV (W2.map V.str) none (some 1))) hC) _ _ eL5
    have eC : (upd H5 C (.lst (cutV (W2.map V.str) none (some 1)))) C = some (.lst ((W2.take 1).map V.str)) := by
      rw [upd_same]
      have : cutV (W2.map V.str) none (some 1) = (W2.take 1).map V.str := by
        unfold cutV
        rw [HT.sIx_none, show (some 1 : Option Int) = some ((1 : Nat) : Int) from rfl, HT.sIx_nat, List.drop_zero, List.map_take, Nat.sub_zero]
        rcases W2 with _ | ⟨a, l⟩
        · rfl
        · rw [List.map_cons, List.length_cons, Nat.min_eq_left (by omega)]
      rw [this]
    generalize (upd H5 C (.lst (cutV (W2.map V.str) none (some 1)))) = H6 at s6 eL6 eC ⊢
    refine ⟨L, C, _, _, rfl, rfl, eL6, eC, by rw [List.length_map, List.length_map, List.length_take, sizeLine_eq]; omega, fun R hR => ?_⟩
    refine ⟨R, _, _, _, _, rfl, s6.trans (Same.upd hR), s6.free hR, ?_, by rw [eN]; omega⟩
    rw [upd_same, eN, eT, List.map_append]
  · subst eσ
    rw [← hkL, ordTN_eq] at eL
    exact ⟨_, rfl, hQ L H2 s2 hL eL⟩
end
end Q41
set_option maxRecDepth 100000
set_option maxHeartbeats 4000000
/-! The law, 13: is_small. -/
namespace Q41
open PySem PySem.Spec PyProof.Rows L2

theorem Good.take {M : Kp} (g : Good M) (i : Nat) : Good (M.take i) := by
  refine ⟨?_, ?_, fun p h => g.name p (List.mem_of_mem_take h), fun p h => g.ok p (List.mem_of_mem_take h), fun p h => g.dp p (List.mem_of_mem_take h)⟩
  · have := g.nd
    unfold keys at this ⊢
    rw [List.map_take]
    exact this.sublist (List.take_sublist _ _)
  · have := g.len
    rw [List.length_take]
    omega
structure KeptO (K : PySem.W.Frag) (H : Hp) (M : Kp) (d : Addr) : Prop where
  good : Good M
  at_ : ∃ ws, H d = some (.dK (asKeysV ws)) ∧ FormsAt K H ws M
theorem KeptO.kept {K : PySem.W.Frag} {H : Hp} {M : Kp} {d : Addr} (h : KeptO K H M d) : KeptAt K H M d := by
  obtain ⟨ws, h1, h2⟩ := h.at_
  exact ⟨h.good, ws, .inl h1, h2⟩
theorem KeptO.same {K : PySem.W.Frag} {H H' : Hp} (e : Same H H') {M : Kp} {d : Addr} (h : KeptO K H M d) : KeptO K H' M d := by
  obtain ⟨ws, h1, h2⟩ := h.at_
  exact ⟨h.good, ws, e _ _ h1, h2.same e⟩
theorem FormsAt.snoc {K : PySem.W.Frag} {H : Hp} {n : Str} {v : V} {f : Fm} (hv : FmAt K H f v) : ∀ {ws : List (Str × V)} {gs : Kp}, FormsAt K H ws gs → FormsAt K H (ws ++ [(n, v)]) (gs ++ [(n, f)])
  | [], [], _ => ⟨rfl, hv, trivial⟩
  | (_, _) :: _, (_, _) :: _, ⟨h1, h2, h3⟩ => ⟨h1, h2, FormsAt.snoc hv h3⟩
theorem FormsAt.at_ {K : PySem.W.Frag} {H : Hp} : ∀ {ws : List (Str × V)} {gs : Kp} {i : Nat} {n : Str} {v : V}, FormsAt K H ws gs → ws[i]? = some (n, v) → ∃ f, gs[i]? = some (n, f) ∧ FmAt K H f v
  | (a, b) :: ws, (m, g) :: gs, 0, n, v, ⟨h1, h2, _⟩, e => by
    simp at e
    obtain ⟨rfl, rfl⟩ := e
    exact ⟨g, by simp [h1], h2⟩
  | (_, _) :: ws, (_, _) :: gs, i + 1, n, v, ⟨_, _, h3⟩, e => by
    simp only [List.getElem?_cons_succ] at e ⊢
    exact FormsAt.at_ h3 e
  | [], [], i, n, v, _, e => by simp at e
/-- a locked dict: it stands locked -/
theorem KeptO.lock {K : PySem.W.Frag} {H : Hp} {M : Kp} {d : Addr} (h : KeptO K H M d) : ∃ ws, H d = some (.dK (asKeysV ws)) ∧ ∀ od, (upd H d (.frz od (.dK (asKeysV ws)))) d = some (.frz od (.dK (asKeysV ws))) ∧ FormsAt K (upd H d (.frz od (.dK (asKeysV ws)))) ws M ∧ KeptAt K (upd H d (.frz od (.dK (asKeysV ws)))) M d := by
  obtain ⟨ws, h1, h2⟩ := h.at_
  refine ⟨ws, h1, fun od => ?_⟩
  have h3 : FormsAt K (upd H d (.frz od (.dK (asKeysV ws)))) ws M := h2.mono (sqT_dK h1)
  exact ⟨upd_same, h3, h.good, ws, .inr ⟨od, upd_same⟩, h3⟩
section
variable {P : Program} {w : World} {K : PySem.W.Frag} {mg : Str → Option Value} {base : Heap} {f fA fM fD fR fN fS fI fF fP fL : Addr}
theorem sc_lsml : FnScope ["_law_kept", "_law_some", "_law_name", "_law_other"] ["_law_kept"] (defScope (top 46)) := mkScope
def spLsml (K : PySem.W.Frag) : Sp := fun vs H Q _ => ∃ d M, vs = [.ref d] ∧ KeptO K H M d ∧ M.length ≤ 5 ∧ ∀ b H', Same H H' → Q (.bl b) H'
theorem has_lsml (T : TopDef K mg "_law_is_small" (top 46) [] f) (h__law_is_asked : Has P w K mg base 25 "_law_is_asked" fA ["_law_kept", "_law_name"] (spLask K)) : Has P w K mg base 26 "_law_is_small" f ["_law_kept"] (spLsml K) := by
  refine mkHas T ?_ (T.d.bindsN fun _ _ _ _ _ _ us hl => match us, hl with | [_], _ => rfl)
  refine T.d.ok sc_lsml (fun vs H Q E ⟨_, _, e, _⟩ => by rw [e] <;> rfl) (fun cdv A outer s H vs Q E hr ⟨d, M, ev, hk, hM, hQ⟩ => ⟨_, PSs.nox (pss_cons (ps_set (i := 1) sc_lsml.nd rfl (.inr rfl) pe_dnewK) (pss_cons (ps_lock (ps_for PassesOwn.never rfl (pi_keys (pv 0)) (pg_name sc_lsml.nd (i := 2) rfl (.inl rfl)) (pss_cons (ps_dput (hu_of hr) (pv 1) (pv 2) (pe_dget (hu_of hr) (pv 0) (pv 2) (by intro _ _; rfl)) rfl) (pss_one (ps_if (pt_cmpR (inq K) pe_bl (pe_lock (pe_lc (own := [("_law_other", 3)]) rfl sc_lsml.nd (pi_keys (pv 1)) (mkBlk (N := ["_law_kept", "_law_some", "_law_name", "_law_other"]) (sc := defScope (top 46))) (fun _ _ _ _ _ => pg_name sc_lsml.nd (i := 3) rfl (.inl rfl)) (fun _ _ _ _ _ => pts_nil) (fun _ _ _ _ _ => (pe_hc h__law_is_asked (hr.mono (by omega)) rfl (pa_cons (pv 1) (pa_cons (pv 3) pa_nil)))))) rfl) (pss_one (ps_ret pe_bl)) pss_nil))))) (pss_one (ps_ret pe_bl)))), ?_⟩)
  subst ev
  have G := hk.good
  refine fun S0 hS0 => ?_
  obtain ⟨ws, hd, hlk⟩ := hk.lock
  have nS : S0 ≠ d := fun e => by rw [e, hd] at hS0; cases hS0
  refine ⟨d, _, (Same.upd hS0) _ _ hd, True.intro, fun od => ?_⟩
  obtain ⟨l1, l2, l3⟩ := hlk od
  have un : ∀ {H'}, Same (upd H d (.frz od (.dK (asKeysV ws)))) H' → H' d = some (.frz od (.dK (asKeysV ws))) ∧ Same H (upd H' d (.dK (asKeysV ws))) := fun s => Same.unlock hd s
  have hSL : (upd H d (.frz od (.dK (asKeysV ws)))) S0 = none := by rw [upd_ne nS]; exact hS0
  have sI : Same (upd H d (.frz od (.dK (asKeysV ws)))) (upd (upd H S0 (.dK [])) d (.frz od (.dK (asKeysV ws)))) := fun b o e => by
    by_cases hb : b = d
    · rw [hb, upd_same] at e ⊢
      exact e
    · have hb2 : b ≠ S0 := fun z => by rw [z, hSL] at e; cases e
      rw [upd_ne hb] at e ⊢
      rw [upd_ne hb2]
      exact e
  have eI : (upd (upd H S0 (.dK [])) d (.frz od (.dK (asKeysV ws)))) S0 = some (.dK (asKeysV [])) := by rw [upd_ne nS, upd_same] <;> rfl
  generalize (upd (upd H S0 (.dK [])) d (.frz od (.dK (asKeysV ws)))) = HI at sI eI ⊢
  generalize (upd H d (.frz od (.dK (asKeysV ws)))) = HL at l1 l2 l3 un hSL sI
  have ewl : (asKeysV ws).length = M.length := by
    have := congrArg List.length l2.keys
    rw [List.length_map, keys_len] at this
    simpa [asKeysV] using this
  refine ⟨_, rfl, d, od, rfl, .inl ⟨_, sI _ _ l1, ?_⟩⟩
  refine for_it walk_keys (fun i σ H' => ∃ (us : List (Str × V)) (nm o : Option V), σ = [some (.ref d), some (.ref S0), nm, o] ∧ Same HL H' ∧ H' S0 = some (.dK (asKeysV us)) ∧ FormsAt K H' us (M.take i)) ⟨[], none, none, rfl, sI, eI, trivial⟩ (fun i σ H' _ ⟨_, _, _, _, h, _⟩ => h _ _ l1) (fun i x σ H' H2 hi ⟨us, nm, o, eσ, s2, eS, fS⟩ y => ?_) (fun σ H' ⟨us, nm, o, eσ, s2, eS, fS⟩ => ?_)
  · subst eσ
    obtain ⟨rfl, k, v, hkv, rfl⟩ := y
    unfold asKeysV at hkv
    rw [List.getElem?_map] at hkv
    cases hw : ws[i]? with
    | none => rw [hw] at hkv; cases hkv
    | some p =>
    rw [hw] at hkv
    cases hkv
    obtain ⟨n, v⟩ := p
    obtain ⟨f, hMi, _⟩ := l2.at_ hw
    have hMm := List.mem_of_getElem? hMi
    have hiM : i < M.length := (List.getElem?_eq_some_iff.mp hMi).1
    have hnk : n ∈ keys M := List.mem_map.mpr ⟨_, hMm, rfl⟩
    obtain ⟨f2, hf2⟩ := lookup_some.mpr hnk
    obtain ⟨v2, hg, hv2⟩ := (l3.same s2).get hf2
    have ef : f2 = f := by
      have h1 := mem_of_get hf2
      obtain ⟨a, ha, e1⟩ := List.getElem_of_mem h1
      obtain ⟨hb, e2⟩ := List.getElem?_eq_some_iff.mp hMi
      have : a = i := by
        have nd := G.nd
        unfold keys at nd
        refine (List.getElem_inj (h₀ := by simpa using ha) (h₁ := by simpa using hb) nd).mp ?_
        rw [List.getElem_map, List.getElem_map, e1, e2]
      subst this
      rw [e1] at e2
      injection e2
    subst ef
    have hnn : n ∉ us.map (·.1) := by
      rw [fS.keys]
      unfold keys
      intro hc
      obtain ⟨j, hj, e⟩ := List.getElem_of_mem hc
      rw [List.length_map, List.length_take] at hj
      have hji : j < i := by omega
      rw [List.getElem_map, List.getElem_take] at e
      obtain ⟨hb, e2⟩ := List.getElem?_eq_some_iff.mp hMi
      have nd := G.nd
      unfold keys at nd
      have := (List.getElem_inj (h₀ := by simp; omega) (h₁ := by simpa using hb) nd (i := j) (j := i)).mp (by rw [List.getElem_map, List.getElem_map, e, e2])
      omega
    have hul : us.length ≤ 5 := by
      have := congrArg List.length fS.keys
      rw [List.length_map, keys_len, List.length_take] at this
      omega
    refine ⟨_, rfl, _, rfl, d, v2, rfl, hg, _, rfl, _, rfl, S0, _, rfl, DPut.k (k := .inr n) eS (by rw [sizeLine_eq]; simp [asKeysV]; omega), ?_⟩
    rw [putA_asK, putA_new hnn]
    have s3 : Same HL (upd H2 S0 (.dK (asKeysV (us ++ [(n, v2)])))) := s2.over hSL
    have etk : M.take (i + 1) = M.take i ++ [(n, f2)] := by rw [List.take_add_one, hMi] <;> rfl
    have f3 : FormsAt K (upd H2 S0 (.dK (asKeysV (us ++ [(n, v2)])))) (us ++ [(n, v2)]) (M.take (i + 1)) := by
      rw [etk]
      exact (FormsAt.snoc hv2 fS).mono (sqT_dK eS)
    have e3 : (upd H2 S0 (.dK (asKeysV (us ++ [(n, v2)])))) S0 = some (.dK (asKeysV (us ++ [(n, v2)]))) := upd_same
    generalize us ++ [(n, v2)] = us3 at s3 f3 e3 ⊢
    generalize (upd H2 S0 (.dK (asKeysV us3))) = H3 at s3 f3 e3 ⊢
    have k3 : KeptO K H3 (M.take (i + 1)) S0 := ⟨G.take _, us3, e3, f3⟩
    refine ⟨S0, _, e3, True.intro, fun od2 => ?_⟩
    obtain ⟨us4, e4, hlk4⟩ := k3.lock
    obtain ⟨m1, m2, m3⟩ := hlk4 od2
    rw [e3] at e4
    injection e4 with e4
    injection e4 with e4
    rw [← e4] at m1 m2 m3
    have un2 : ∀ {H'}, Same (upd H3 S0 (.frz od2 (.dK (asKeysV us3)))) H' → H' S0 = some (.frz od2 (.dK (asKeysV us3))) ∧ Same H3 (upd H' S0 (.dK (asKeysV us3))) := fun s => Same.unlock e3 s
    generalize (upd H3 S0 (.frz od2 (.dK (asKeysV us3)))) = H4 at m1 m2 m3 un2 ⊢
    refine ⟨_, rfl, S0, od2, rfl, .inl ⟨_, m1, fun D hD => ?_⟩⟩
    have hul3 : (asKeysV us3).length ≤ 5 := by
      have := congrArg List.length f3.keys
      rw [List.length_map, keys_len, List.length_take] at this
      simp [asKeysV]
      omega
    refine lc_it walk_keys (fun j H5 => Same H4 H5 ∧ ∃ bs : List Bool, H5 D = some (.lst (bs.map V.bl)) ∧ bs.length ≤ j) ⟨Same.upd hD, [], upd_same, Nat.le_refl _⟩ (fun j H5 _ h => h.1 _ _ m1) (fun j x H5 H6 hj ⟨s5, bs, eD, lb⟩ y => ?_) (fun H5 ⟨s5, bs, eD, lb⟩ => ?_)
    · obtain ⟨rfl, k, v, hkv, rfl⟩ := y
      rw [e4] at hkv
      unfold asKeysV at hkv
      rw [List.getElem?_map] at hkv
      cases hw4 : us4[j]? with
      | none => rw [hw4] at hkv; cases hkv
      | some p =>
      rw [hw4] at hkv
      cases hkv
      obtain ⟨t, tv⟩ := p
      have e4' : us3 = us4 := by
        have h1 := f3.keys
        have : us3 = us4 := by
          have := congrArg (List.map fun kv : Key × V => ((match kv.1 with | .inr z => z | .inl _ => ""), kv.2)) e4
          simpa [asKeysV, List.map_map, Function.comp_def] using this
        exact this
      subst e4'
      obtain ⟨ft, hft, _⟩ := f3.at_ hw4
      have htk : t ∈ keys (M.take (i + 1)) := List.mem_map.mpr ⟨_, List.mem_of_getElem? hft, rfl⟩
      refine ⟨rfl, .ref S0, rfl, .str t, rfl, S0, t, M.take (i + 1), rfl, m3.same s5, htk, by rw [List.length_take]; omega, fun b H7 s7 => ?_⟩
      refine ⟨_, s7 _ _ eD, by rw [List.length_map, sizeLine_eq]; omega, (s5.trans s7).over hD, bs ++ [b], ?_, by rw [List.length_append, List.length_singleton]; omega⟩
      rw [upd_same]
      simp
    · obtain ⟨u1, u2⟩ := un2 s5
      refine ⟨u1, ?_⟩
      have nDS : D ≠ S0 := fun e => by rw [e, m1] at hD; cases hD
      have eD6 : (upd H5 S0 (.dK (asKeysV us3))) D = some (.lst (bs.map V.bl)) := by rw [upd_ne nDS]; exact eD
      have s6 := s3.trans u2
      have eS6 := u2 _ _ e3
      have f6 := f3.same u2
      generalize (upd H5 S0 (.dK (asKeysV us3))) = H6 at eD6 s6 eS6 f6 ⊢
      refine ⟨D, _, rfl, .inl (sqL_of eD6), rfl, ?_, _, rfl, ?_⟩
      · rw [List.all_map, List.all_eq_true]
        intro x _
        rfl
      · cases (if false = true then !inV (.bl false) (bs.map V.bl) else inV (.bl false) (bs.map V.bl)) with
        | true =>
          obtain ⟨w1, w2⟩ := un s6
          exact ifT rfl ⟨w1, hQ false _ w2⟩
        | false => exact ifF rfl ⟨us3, _, _, rfl, s6, eS6, f6⟩
  · obtain ⟨w1, w2⟩ := un s2
    exact ⟨w1, hQ true _ w2⟩
end
end Q41
set_option maxRecDepth 100000
set_option maxHeartbeats 4000000
/-! The law, 14: drawn. -/
namespace Q41
open PySem PySem.Spec PyProof.Rows L2

def pool : List Str := ["m", "a", "zz", "abcdefgh", "b"]
def pool7 : List Str := pool ++ ([("free" : Str), "x"] : List Str)
theorem pool_ok : ∀ x ∈ pool7, nameOk x = true := by decide +kernel
theorem FormsAt.dK {K : PySem.W.Frag} {H : Hp} {l : Addr} {us : List (Key × V)} {o : HO} (hl : H l = some (.dK us)) {ws : List (Str × V)} {gs : Kp} (h : FormsAt K H ws gs) : FormsAt K (upd H l o) ws gs := h.mono (sqT_dK hl)
theorem PurseAt.upd {H : Hp} {p q : Addr} {m : Nat} {o : HO} (h : PurseAt H p m) (n : q ≠ p) : PurseAt (L2.upd H q o) p m := by
  obtain ⟨x, c, k, h1, h2⟩ := h
  exact ⟨x, c, k, by rw [upd_ne (Ne.symm n)]; exact h1, h2⟩
theorem Ex.over {p q : Addr} {H H' : Hp} {o : HO} (x : Ex p H H') (h : H q = none) : Ex p H (L2.upd H' q o) := fun b u n e => by
  rw [upd_ne (ne_of_none e h)]
  exact x b u n e
theorem Ex.none {p q : Addr} {H H' : Hp} (x : Ex p H H') (n : q ≠ p) (h : H' q = none) : H q = none := by
  cases e : H q with
  | none => rfl
  | some o =>
    rw [x q o n e] at h
    cases h
theorem Ex.forms {K : PySem.W.Frag} {p : Addr} {H H' : Hp} {m : Nat} (x : Ex p H H') (hp : PurseAt H p m) {ws : List (Str × V)} {M : Kp} (h : FormsAt K H ws M) : FormsAt K H' ws M := by
  obtain ⟨_, _, _, h1, _⟩ := hp
  exact h.mono (x.seqT h1)
theorem cut_strs (l : List Str) (lo hi : Option Int) : ∃ l' : List Str, cutV (l.map V.str) lo hi = l'.map V.str ∧ (∀ x ∈ l', x ∈ l) ∧ l'.length ≤ l.length := by
  refine ⟨(l.drop (HT.sIx l.length 0 lo)).take (HT.sIx l.length l.length hi - HT.sIx l.length 0 lo), ?_, fun x hx => List.mem_of_mem_drop (List.mem_of_mem_take hx), ?_⟩
  · unfold cutV
    rw [List.length_map, List.map_take, List.map_drop]
  · rw [List.length_take, List.length_drop]
    omega
theorem tSeqIf_name {t : TT} {a b u : TS} {D : Ends} {σ : L2.St} {H : Hp} (h : ∀ C : L2.St → Hp → Prop, C = u D → tIfS t a b { D with nx := C } σ H) : tSeq (tIfS t a b) u D σ H := h _ rfl
section
variable {P : Program} {w : World} {K : PySem.W.Frag} {mg : Str → Option Value} {base : Heap} {f fA fM fD fR fN fS fI fF fP fL : Addr}
theorem sc_lfin : FnScope ["_law_purse_here", "_law_pool", "_law_names", "_law_kept", "_law_is_free", "_law_name", "_law_others", "_law_k", "_law_other"] ["_law_purse_here"] (defScope (top 47)) := mkScope
def spLdrn (K : PySem.W.Frag) : Sp := fun vs H Q _ => ∃ p m, vs = [.ref p] ∧ PurseAt H p m ∧ m ≤ 100000 ∧ ∀ d M H', Ex p H H' → PurseAt H' p (m + 1000) → H d = none → KeptO K H' M d → M.length ≤ 5 → (∀ x ∈ keys M, x ∈ pool) → Q (.ref d) H'
theorem has_ldrn (T : TopDef K mg "_law_drawn" (top 47) [] f) (g_int : mg "int" = none) (g_range : mg "range" = none) (h__law_draw : Has P w K mg base 2 "_law_draw" fD ["_law_purse_here", "_law_out_of"] spDrw) (h__law_form : Has P w K mg base 7 "_law_form" fF ["_law_purse_here", "_law_strings", "_law_names", "_law_deep"] (spFrm K 4)) : Has P w K mg base 8 "_law_drawn" f ["_law_purse_here"] (spLdrn K) := by
  refine mkHas T ?_ (T.d.bindsN fun _ _ _ _ _ _ us hl => match us, hl with | [_], _ => rfl)
  refine T.d.ok sc_lfin (fun vs H Q E ⟨_, _, e, _⟩ => by rw [e] <;> rfl) (fun cdv A outer s H vs Q E hr ⟨p, m, ev, hp, hm, hQ⟩ => ⟨_, PSs.nox (pss_cons (ps_set (i := 1) sc_lfin.nd rfl (.inr rfl) (pe_lst (pa_cons pe_str (pa_cons pe_str (pa_cons pe_str (pa_cons pe_str (pa_cons pe_str pa_nil))))))) (pss_cons (ps_set (i := 2) sc_lfin.nd rfl (.inr rfl) (pe_slice (sll K) (pe_lc (own := [("_law_k", 7)]) rfl sc_lfin.nd (pi_range1 rfl g_range (pa_cons pe_int pa_nil)) (mkBlk (N := ["_law_purse_here", "_law_pool", "_law_names", "_law_kept", "_law_is_free", "_law_name", "_law_others", "_law_k", "_law_other"]) (sc := defScope (top 47))) (fun _ _ _ _ _ => pg_name sc_lfin.nd (i := 7) rfl (.inl rfl)) (fun _ _ _ _ _ => pts_nil) (fun _ _ _ _ _ => (pe_ix (ixL K) (pv 1) (pe_op op_mod (pe_callTy call_int1 rfl g_int Boot.«int» (pa_cons (pe_op op_add (pv 7) (pe_hc h__law_draw (hr.mono (by omega)) rfl (pa_cons (pv 0) (pa_cons pe_int pa_nil)))) pa_nil)) pe_int) (by intro _ _; rfl)))) po_none (po_some (pe_op op_add pe_int (pe_hc h__law_draw (hr.mono (by omega)) rfl (pa_cons (pv 0) (pa_cons pe_int pa_nil))))))) (pss_cons (ps_set (i := 3) sc_lfin.nd rfl (.inl rfl) pe_dnewK) (pss_cons (ps_set (i := 4) sc_lfin.nd rfl (.inl rfl) (pe_cmpR op_eq (pe_hc h__law_draw (hr.mono (by omega)) rfl (pa_cons (pv 0) (pa_cons pe_int pa_nil))) pe_int (nomark _))) (pss_cons (ps_for PassesOwn.never rfl (pil K (pv 2)) (pg_name sc_lfin.nd (i := 5) rfl (.inr rfl)) (pss_cons (ps_setLc (i := 6) (own := [("_law_other", 8)]) rfl sc_lfin.nd rfl rfl (sw_true rfl rfl rfl rfl) (pil K (pe_op op_cat (pv 1) (pe_lst (pa_cons pe_str (pa_cons pe_str pa_nil))))) (mkBlk (N := ["_law_purse_here", "_law_pool", "_law_names", "_law_kept", "_law_is_free", "_law_name", "_law_others", "_law_k", "_law_other"]) (sc := defScope (top 47))) (fun _ _ _ _ _ => pg_name sc_lfin.nd (i := 8) rfl (.inl rfl)) (fun _ _ _ _ _ => (pts_one (pt_cmpR (ninq K) (pv 8) (pv 2) rfl))) (fun _ _ _ _ _ => (pv 8))) (pss_cons (ps_if (pt_val (pv 4)) (pss_one (ps_set (i := 6) sc_lfin.nd rfl (.inl rfl) (pe_op op_cat (pv 6) (pe_lock (pe_lc (own := [("_law_other", 8)]) rfl sc_lfin.nd (pi_keys (pv 3)) (mkBlk (N := ["_law_purse_here", "_law_pool", "_law_names", "_law_kept", "_law_is_free", "_law_name", "_law_others", "_law_k", "_law_other"]) (sc := defScope (top 47))) (fun _ _ _ _ _ => pg_name sc_lfin.nd (i := 8) rfl (.inl rfl)) (fun _ _ _ _ _ => (pts_one (pt_cmpR op_ne (pv 8) (pv 5) (nomark _)))) (fun _ _ _ _ _ => (pv 8))))))) (pss_one (ps_set (i := 6) sc_lfin.nd rfl (.inl rfl) (pe_op op_cat (pv 6) (pv 2))))) (pss_one (ps_if (pt_cmp (pc_dnotin (hu_of hr) (pv 5) (pv 3))) (pss_one (ps_dput (hu_of hr) (pv 3) (pv 5) (pe_hc h__law_form (hr.mono (by omega)) rfl (pa_cons (pv 0) (pa_cons (pe_lst (pa_cons pe_str (pa_cons pe_str pa_nil))) (pa_cons (pv 6) (pa_cons (pe_op op_add pe_int (pe_hc h__law_draw (hr.mono (by omega)) rfl (pa_cons (pv 0) (pa_cons pe_int pa_nil)))) pa_nil))))) rfl)) pss_nil))))) (pss_one (ps_ret (pv 3)))))))), ?_⟩)
  subst ev
  refine ⟨le_line (by simp), fun PL hPL => ?_⟩
  have nPL := Ex.fresh hp hPL
  have x1 : Ex p H (upd H PL (.lst [.str "m", .str "a", .str "zz", .str "abcdefgh", .str "b"])) := Ex.of (Same.upd hPL)
  have p1 : PurseAt (upd H PL (.lst [.str "m", .str "a", .str "zz", .str "abcdefgh", .str "b"])) p m := hp.upd nPL
  have ePL : (upd H PL (.lst [.str "m", .str "a", .str "zz", .str "abcdefgh", .str "b"])) PL = some (.lst (pool.map V.str)) := upd_same
  generalize (upd H PL (.lst [.str "m", .str "a", .str "zz", .str "abcdefgh", .str "b"])) = H1 at x1 p1 ePL ⊢
  refine ⟨5, rfl, by omega, by omega, fun D hD => ?_⟩
  have nD := Ex.fresh p1 hD
  refine lc_it (walk_range (lo := 0) (n := 5)) (fun i H2 => Ex p H1 H2 ∧ PurseAt H2 p (m + i) ∧ ∃ l : List Str, H2 D = some (.lst (l.map V.str)) ∧ l.length = i ∧ ∀ x ∈ l, x ∈ pool) ⟨Ex.of (Same.upd hD), p1.upd nD, [], upd_same, rfl, (fun _ h => nomatch h)⟩ (fun _ _ _ _ => trivial) (fun i x H2 H3 hi ⟨x2, p2, l, eD, ll, lp⟩ y => ?_) (fun H2 ⟨x2, p2, l, eD, ll, lp⟩ => ?_)
  · obtain ⟨rfl, rfl⟩ := y
    refine ⟨rfl, _, rfl, _, rfl, _, rfl, p, m + i, 2, rfl, p2, by omega, by omega, by omega, fun r H4 x4 p4 l4 => ?_⟩
    have hi5 : ((0 : Int) + (i : Nat) + (r : Nat)) % 5 = (((i + r) % 5 : Nat) : Int) := by omega
    have h5 : (i + r) % 5 < (pool.map V.str).length := by
      have : (i + r) % 5 < 5 := Nat.mod_lt _ (by omega)
      exact this
    have h5' : (i + r) % 5 < pool.length := h5
    refine ⟨_, _, rfl, rfl, .inl ⟨_, rfl, _, _, rfl, rfl, by omega, PL, _, _, _, rfl, rfl, sqL_of ((x2.trans x4) _ _ nPL ePL), by rw [hi5]; exact atI_nat h5, ?_⟩⟩
    rw [List.getElem_map]
    refine ⟨_, x4 _ _ nD eD, by rw [List.length_map, sizeLine_eq]; omega, (x2.trans x4).over hD, p4.upd nD, l ++ [pool[(i + r) % 5]], ?_, by rw [List.length_append, List.length_singleton, ll], fun x hx => ?_⟩
    · rw [upd_same]
      simp
    · rcases List.mem_append.mp hx with h | h
      · exact lp x h
      · rw [List.mem_singleton.mp h]
        exact List.getElem_mem h5'
  refine ⟨_, rfl, p, m + 5, 5, rfl, p2, by omega, by omega, by omega, fun r H3 x3 p3 l3 => ?_⟩
  refine ⟨_, _, rfl, rfl, _, rfl, D, _, rfl, sqL_of (x3 _ _ nD eD), fun NL hNL => ?_⟩
  have nNL := Ex.fresh p3 hNL
  obtain ⟨ns, ens, nsp, nsl⟩ := cut_strs l none (some (1 + (r : Int)))
  rw [ens]
  have nsl5 : ns.length ≤ 5 := by omega
  have nsp : ∀ x ∈ ns, x ∈ pool := fun x hx => lp x (nsp x hx)
  have x4 : Ex p H1 (upd H3 NL (.lst (ns.map V.str))) := (x2.trans x3).trans (Ex.of (Same.upd hNL))
  have p4 : PurseAt (upd H3 NL (.lst (ns.map V.str))) p (m + 6) := p3.upd nNL
  have eNL : (upd H3 NL (.lst (ns.map V.str))) NL = some (.lst (ns.map V.str)) := upd_same
  have ePL4 := x4 _ _ nPL ePL
  generalize (upd H3 NL (.lst (ns.map V.str))) = H4 at x4 p4 eNL ePL4 ⊢
  have x04 := x1.trans x4
  clear eD ll lp ens nsl p2 p3 x2 x3 ePL hD nD p1 x4
  refine fun KD hKD => ?_
  have nKD := Ex.fresh p4 hKD
  have hKD0 : H KD = none := x04.none nKD hKD
  refine ⟨_, rfl, p, m + 6, 2, rfl, p4.upd nKD, by omega, by omega, by omega, fun r2 H5 x5 p5 l5 => ?_⟩
  have eK5 := x5 _ _ nKD (upd_same (H := H4) (a := KD))
  have x45 : Ex p H4 H5 := (Ex.of (Same.upd hKD)).trans x5
  refine ⟨rfl, ?_⟩
  generalize decide (V.int (r2 : Int) = V.int 0) = bf
  refine ⟨_, rfl, NL, rfl, ⟨_, sqL_of (x45 _ _ nNL eNL)⟩, ?_⟩
  refine for_it (walk_list (xs := ns.map V.str)) (fun i σ H6 => ∃ (M : Kp) (ws : List (Str × V)) (a b : Option V), σ = [some (.ref p), some (.ref PL), some (.ref NL), some (.ref KD), some (.bl bf), a, b, none, none] ∧ Ex p H4 H6 ∧ PurseAt H6 p (m + 7 + 61 * i) ∧ H6 KD = some (.dK (asKeysV ws)) ∧ FormsAt K H6 ws M ∧ Good M ∧ M.length ≤ i ∧ ∀ x ∈ keys M, x ∈ pool) ⟨[], [], none, none, rfl, x45, p5, eK5, trivial, ⟨.nil, by simp, (fun _ h => nomatch h), (fun _ h => nomatch h), (fun _ h => nomatch h)⟩, Nat.le_refl _, (fun _ h => nomatch h)⟩
    (fun i σ H6 _ ⟨_, _, _, _, _, h, _⟩ => sqL_of (h _ _ nNL eNL)) (fun i x σ H6 H7 hi ⟨M, ws, a, b, eσ, x6, p6, eK, fK, G, lM, kM⟩ y => ?_) (fun σ H6 ⟨M, ws, a, b, eσ, x6, p6, eK, fK, G, lM, kM⟩ => ?_)
  · subst eσ
    obtain ⟨rfl, hx⟩ := yat _ _ _ _ y
    rw [List.length_map] at hi
    rw [List.getElem?_map] at hx
    cases hz : ns[i]? with
    | none => rw [hz] at hx; cases hx
    | some z =>
    rw [hz] at hx
    cases hx
    have hzp : z ∈ pool := nsp z (List.mem_of_getElem? hz)
    have hzn : nameOk z = true := pool_ok z (List.mem_append_left _ hzp)
    have nsok : ∀ x ∈ ns, nameOk x = true := fun x hx => pool_ok x (List.mem_append_left _ (nsp x hx))
    refine ⟨_, rfl, le_line (by simp), fun e he => ?_⟩
    have s7 := Same.upd (o := .lst [.str "free", .str "x"]) he
    refine ⟨PL, e, _, _, rfl, rfl, s7 _ _ (x6 _ _ nPL ePL4), upd_same, by rw [List.length_map, sizeLine_eq]; exact (by decide : 7 ≤ 16777216), fun q hq => ?_⟩
    have s8 := s7.trans (Same.upd (o := .lst (pool.map V.str ++ [.str "free", .str "x"])) hq)
    have eq : (upd (upd H7 e (.lst [.str "free", .str "x"])) q (.lst (pool.map V.str ++ [.str "free", .str "x"]))) q = some (.lst (pool7.map V.str)) := upd_same
    generalize (upd (upd H7 e (.lst [.str "free", .str "x"])) q (.lst (pool.map V.str ++ [.str "free", .str "x"]))) = H8 at s8 eq ⊢
    refine ⟨q, rfl, ⟨_, sqL_of eq⟩, fun O1 hO1 => ?_⟩
    refine lc_same walk_list (filS fun x => !decide (x ∈ ns)) rfl (by decide) hO1 (fun H9 s9 => sqL_of (s9 _ _ eq)) yat (fun x hx H9 s9 Q9 q9 => ?_) fun H9 s9 e9 => ?_
    · obtain ⟨t, ht, rfl⟩ := List.mem_map.mp hx
      refine ⟨rfl, _, rfl, _, rfl, NL, _, rfl, .inl (sqL_of (s9 _ _ (s8 _ _ (x6 _ _ nNL eNL)))), rfl, flat_strs _, _, rfl, ?_⟩
      rw [inV_str]
      have e : (if true = true then !decide (t ∈ ns) else decide (t ∈ ns)) = !decide (t ∈ ns) := rfl
      rw [e]
      have := q9 H9 (Same.refl _)
      cases c : !decide (t ∈ ns) with
      | true =>
        rw [filS_pos c] at this
        exact ifT rfl ⟨_, rfl, this⟩
      | false =>
        rw [filS_neg c] at this
        exact ifF rfl this
    rw [filS_map] at e9
    have lO : (pool7.filter fun x => !decide (x ∈ ns)).length ≤ 7 := List.length_filter_le _ _
    have oO : ∀ x ∈ pool7.filter fun x => !decide (x ∈ ns), nameOk x = true := fun x hx => pool_ok x (List.mem_filter.mp hx).1
    generalize (pool7.filter fun x => !decide (x ∈ ns)) = os at e9 lO oO
    have s79 := s8.trans s9
    dsimp only [gName]
    refine tSeqIf_name fun C hC => ?_
    have rest : ∀ (O2 : Addr) (l2 : List Str) (H10 : Hp), Same H7 H10 → H10 O2 = some (.lst (l2.map V.str)) → O2 ≠ p → l2.length ≤ 12 → (∀ x ∈ l2, nameOk x = true) → C [some (.ref p), some (.ref PL), some (.ref NL), some (.ref KD), some (.bl bf), some (.str z), some (.ref O2), none, none] H10 := by
      intro O2 l2 H10 s10 eO nO lO2 oO2
      rw [hC]
      have k10 : KeptAt K H10 M KD := ⟨G, ws, .inl (s10 _ _ eK), fK.same s10⟩
      obtain ⟨o, ho, eo⟩ := k10.in_ z
      refine ⟨_, rfl, _, rfl, KD, o, rfl, ho, ?_⟩
      rw [eo]
      refine ⟨_, rfl, ?_⟩
      have x610 : Ex p H4 H10 := x6.trans (Ex.of s10)
      have p10 := p6.same s10
      by_cases hk : z ∈ keys M
      · refine ifF (c := !decide (z ∈ keys M)) (by simp [hk]) ?_
        exact ⟨M, ws, _, _, rfl, x610, p10.mono (by omega), s10 _ _ eK, fK.same s10, G, by omega, kM⟩
      · refine ifT (c := !decide (z ∈ keys M)) (by simp [hk]) ?_
        refine ⟨_, rfl, le_line (by simp), fun SL hSL => ?_⟩
        have nSL := Ex.fresh p10 hSL
        have s11 := Same.upd (o := .lst [.str "a", .str ""]) hSL
        refine ⟨_, rfl, _, rfl, p, _, 2, rfl, p10.same s11, by omega, by omega, by omega, fun r3 H12 x12 p12 l12 => ?_⟩
        have e3 : (2 : Int) + (r3 : Int) = ((2 + r3 : Nat) : Int) := by omega
        have fc : fcost (2 + r3) ≤ 60 := by
          obtain rfl | rfl : r3 = 0 ∨ r3 = 1 := by omega
          · decide
          · decide
        refine ⟨_, _, rfl, rfl, p, SL, O2, _, 2 + r3, [("a" : Str), ""], l2, by rw [← e3] <;> rfl, by omega, p12, by omega, ⟨nSL, nO, sqL_of (x12 _ _ nSL upd_same), sqL_of (x12 _ _ nO (s11 _ _ eO)), by decide, by decide, by omega, by decide +kernel, oO2⟩, fun v f H13 x13 p13 m13 k13 d13 => ?_⟩
        have x1013 : Ex p H10 H13 := ((Ex.of s11).trans x12).trans x13
        have e13 := x1013 _ _ nKD (s10 _ _ eK)
        have f13 : FormsAt K H13 ws M := x1013.forms p10 (fK.same s10)
        have hwl : ws.length = M.length := by
          have := congrArg List.length fK.keys
          rwa [List.length_map, keys_len] at this
        refine ⟨_, rfl, _, rfl, KD, _, rfl, DPut.k (k := .inr z) e13 (by rw [sizeLine_eq]; simp [asKeysV]; omega), ?_⟩
        have hzw : z ∉ ws.map (·.1) := by rw [fK.keys]; exact hk
        rw [putA_asK, putA_new hzw]
        have Gp := G.put hzn k13 (by omega : f.depth ≤ 3) (by omega)
        rw [putA_new hk] at Gp
        refine ⟨M ++ [(z, f)], ws ++ [(z, v)], _, _, rfl, (x610.trans x1013).over hKD, (p13.mono (by omega)).upd nKD, upd_same, (FormsAt.snoc m13 f13).dK e13, Gp, by rw [List.length_append, List.length_singleton]; omega, fun x hx => by
          unfold keys at hx
          rw [List.map_append] at hx
          rcases List.mem_append.mp hx with h | h
          · exact kM x h
          · rw [List.mem_singleton.mp h]
            exact hzp⟩
    have eO9 : ∀ {H10 : Hp}, Same H9 H10 → H10 O1 = some (.lst (os.map V.str)) := fun s => s _ _ e9
    refine ⟨_, rfl, bf, rfl, ?_⟩
    cases bf with
    | true =>
      refine ifT rfl ?_
      have eK9 := s79 _ _ eK
      refine ⟨_, rfl, KD, _, eK9, True.intro, fun od => ?_⟩
      have un : ∀ {H'}, Same (upd H9 KD (.frz od (.dK (asKeysV ws)))) H' → H' KD = some (.frz od (.dK (asKeysV ws))) ∧ Same H9 (upd H' KD (.dK (asKeysV ws))) := fun s => Same.unlock eK9 s
      have eL : (upd H9 KD (.frz od (.dK (asKeysV ws)))) KD = some (.frz od (.dK (asKeysV ws))) := upd_same
      generalize (upd H9 KD (.frz od (.dK (asKeysV ws)))) = HL at un eL ⊢
      refine ⟨_, rfl, KD, od, rfl, .inl ⟨_, eL, fun D hD => ?_⟩⟩
      have ek : ws.map (·.1) = keys M := fK.keys
      have ekl : (asKeysV ws).length = (keys M).length := by rw [← ek]; simp [asKeysV]
      have hkL := keys_len (M := M)
      refine lc_same (xs := (keys M).map .str) walk_keys (filS fun x => !decide (x = z)) (by rw [List.length_map, ekl]) (by omega) hD (fun H10 s10 => s10 _ _ eL) (fun i H x H' y => ?_) (fun x hx H10 s10 Q10 q10 => ?_) fun H10 s10 e10 => ?_
      · obtain ⟨e, k, v, hk, rfl⟩ := y
        refine ⟨e, ?_⟩
        rw [← ek]
        unfold asKeysV at hk
        rw [List.getElem?_map] at hk ⊢
        rw [List.getElem?_map]
        cases hw : ws[i]? with
        | none => rw [hw] at hk; cases hk
        | some p =>
          rw [hw] at hk
          cases hk
          rfl
      · obtain ⟨t, ht, rfl⟩ := List.mem_map.mp hx
        refine ⟨rfl, _, rfl, _, rfl, rfl, _, rfl, ?_⟩
        have e : (!decide (V.str t = V.str z)) = !decide (t = z) := by
          congr 1
          exact decide_eq_decide.mpr ⟨fun e => by injection e, fun e => by rw [e]⟩
        rw [e]
        have := q10 H10 (Same.refl _)
        cases c : !decide (t = z) with
        | true =>
          rw [filS_pos c] at this
          exact ifT rfl ⟨_, rfl, this⟩
        | false =>
          rw [filS_neg c] at this
          exact ifF rfl this
      · rw [filS_map] at e10
        obtain ⟨u1, u2⟩ := un s10
        refine ⟨u1, ?_⟩
        have nDK : D ≠ KD := fun e => by rw [e, eL] at hD; cases hD
        have eD : (upd H10 KD (.dK (asKeysV ws))) D = some (.lst (((keys M).filter fun x => !decide (x = z)).map V.str)) := by rw [upd_ne nDK]; exact e10
        have lD : ((keys M).filter fun x => !decide (x = z)).length ≤ 5 := Nat.le_trans (List.length_filter_le _ _) (by omega)
        have oD : ∀ x ∈ (keys M).filter fun x => !decide (x = z), nameOk x = true := fun x hx => G.names x (List.mem_filter.mp hx).1
        generalize ((keys M).filter fun x => !decide (x = z)) = l2 at eD lD oD
        generalize (upd H10 KD (.dK (asKeysV ws))) = H11 at u2 eD ⊢
        refine ⟨O1, D, _, _, rfl, rfl, eO9 u2, eD, by rw [List.length_map, List.length_map, sizeLine_eq]; omega, fun q hq => ?_⟩
        have s12 := (s79.trans u2).trans (Same.upd (o := .lst (os.map V.str ++ l2.map V.str)) hq)
        have nq := Ex.fresh ((p6.same s79).same u2) hq
        exact rest q (os ++ l2) _ s12 (by rw [upd_same, List.map_append]) nq (by rw [List.length_append]; omega) fun x hx => by
          rcases List.mem_append.mp hx with h | h
          · exact oO x h
          · exact oD x h
    | false =>
      refine ifF rfl ?_
      refine ⟨_, rfl, _, rfl, O1, NL, _, _, rfl, rfl, e9, s79 _ _ (x6 _ _ nNL eNL), by rw [List.length_map, List.length_map, sizeLine_eq]; omega, fun q hq => ?_⟩
      have s12 := s79.trans (Same.upd (o := .lst (os.map V.str ++ ns.map V.str)) hq)
      have nq := Ex.fresh (p6.same s79) hq
      exact rest q (os ++ ns) _ s12 (by rw [upd_same, List.map_append]) nq (by rw [List.length_append]; omega) fun x hx => by
        rcases List.mem_append.mp hx with h | h
        · exact oO x h
        · exact nsok x h
  · subst eσ
    refine ⟨_, rfl, hQ KD M H6 (x04.trans x6) (p6.mono (by rw [List.length_map]; omega)) hKD0 ⟨G, ws, eK, fK⟩ (by rw [List.length_map] at lM; omega) kM⟩
end
end Q41
set_option maxRecDepth 100000
set_option maxHeartbeats 4000000
/-! The law, 15: caught. -/
namespace Q41
open PySem PySem.Spec PyProof.Rows L2

abbrev LE (K : PySem.W.Frag) : Addr := He.ga K "LayoutError"
/-- what is known of the errors as they are caught -/
structure ErrY (K : PySem.W.Frag) (mg : Str → Option Value) : Prop where
  g : mg "LayoutError" = some (.ref (LE K))
  exN : PySem.W.exmOne K (.ref (NC K)) (.ref (LE K)) = some true
  exC : PySem.W.exmOne K (.ref (CC K)) (.ref (LE K)) = some true
  xN : XfC K (NC K)
  xC : XfC K (CC K)
  cN : ExcC K (NC K)
  cC : ExcC K (CC K)
  k1 : PySem.W.kitOne K (.ref (NC K)) (.ref (NC K)) = some true
  k2 : PySem.W.kitOne K (.ref (CC K)) (.ref (NC K)) = some false
  k3 : PySem.W.kitOne K (.ref (CC K)) (.ref (CC K)) = some true
def rIs2 (K : PySem.W.Frag) : List V → Hp → VK → Prop := fun xs H Q => rIsK K (NC K) xs H Q ∨ rIsK K (CC K) xs H Q
theorem call_is2 {X : Cx} (K : PySem.W.Frag) (e : X.K = K) (Y : ErrY K X.mg) : CallR X (.builtin "isinstance") (rIs2 K) := by
  subst e
  intro pins s σ H xs us Q I r q
  rcases q with q | q
  · exact call_isK Y.cN pins s σ H xs us Q I r q
  · exact call_isK Y.cC pins s σ H xs us Q I r q
theorem asg2_name {v1 v2 : V} {i j : Nat} {t u : TS} {D : Ends} {σ : L2.St} {H : Hp} (h : ∀ C : L2.St → Hp → Prop, C = u D → t { D with nx := C } ((σ.set i (some v1)).set j (some v2)) H) : tSeq (tAsg (tC v1) (gName i)) (tSeq (tAsg (tC v2) (gName j)) (tSeq t u)) D σ H := h _ rfl
section
variable {P : Program} {w : World} {K : PySem.W.Frag} {mg : Str → Option Value} {base : Heap} {f fA fM fD fR fN fS fI fF fP fL : Addr}
theorem sc_cau : FnScope ["_law_way", "_law_desk", "_law_name", "_law_caught_here", "_law_told", "error"] ["_law_way", "_law_desk", "_law_name"] (defScope (top 42)) := mkScope
def spCau (K : PySem.W.Frag) : Sp := fun vs H Q _ => ∃ (way : Int) (a pl : Addr) (M : Kp) (c : Nat) (x : V) (b : Bool), vs = [.int way, .ref a, x] ∧ (way = 0 ∨ way = 1) ∧ DeskO K H M c a pl ∧ NameQ K H M x b ∧ (b = false → ∀ l H', Same H H' → H' l = some (.lst [.str "missing", x]) → Q (.ref l) H') ∧
  (b = true → ∀ n f, x = .str n → M.lookup n = some f → (way = 1 → ∀ l r H', Same H H' → H' l = some (.lst [.str "form", r]) → FmAt K H' f r → Q (.ref l) H') ∧
    (way = 0 → circ M n = [] → ∀ l r H', Same H H' → H' l = some (.lst [.str "form", r]) → FmAt K H' (lf M 30 f) r → Q (.ref l) H') ∧
    (way = 0 → circ M n ≠ [] → ∀ l q H', Same H H' → H' l = some (.lst [.str "round", .ref q]) → H' q = some (.tup ((circ M n).map .str)) → Q (.ref l) H'))
theorem has_cau (T : TopDef K mg "_law_caught" (top 42) [] f) (Dc : DocTx K mg) (Dk : DeskTx K mg) (Y : ErrY K mg) (N1 : ErrTx K mg "NoSuchName" "name" (mem 7 0)) (N2 : ErrTx K mg "Circular" "ring" (mem 8 0)) (g_isinstance : mg "isinstance" = none) (g_int : mg "int" = none)
    (p_form : HasP P w K mg base 1 (DC K) "form" (He.ma K (DC K) "form") (pA K (DC K) "form") ["self"] (spForm K)) (m_whole : HasM P w K mg base 40 (KC K) "whole" (He.ma K (KC K) "whole") ["self", "name"] (spWhole K))
    (ok_get : FnOk P w K mg base (L2.CX P w) 3 (He.ma K (KC K) "__getitem__") (fdOf K (He.ma K (KC K) "__getitem__")) ["self", "name"] (spGetit K)) : Has P w K mg base 41 "_law_caught" f ["_law_way", "_law_desk", "_law_name"] (spCau K) := by
  refine mkHas T ?_ (T.d.bindsN fun _ _ _ _ _ _ us hl => match us, hl with | [_, _, _], _ => rfl)
  refine T.d.ok sc_cau (fun vs H Q E ⟨_, _, _, _, _, _, _, e, _⟩ => by rw [e] <;> rfl) (fun cdv A outer s H vs Q E hr ⟨way, a, pl, M, c, x, b, ev, hway, hd, hx, hF, hT⟩ => ⟨_, PSs.nox (pss_cons (ps_set (i := 3) sc_cau.nd rfl (.inl rfl) pe_non) (pss_cons (ps_set (i := 4) sc_cau.nd rfl (.inl rfl) pe_non) (pss_cons (ps_try_keep (i := 5) (c := .ref (LE K)) rfl rfl sc_cau.nd rfl rfl ⟨rfl, by decide, .inl Y.g⟩ rfl (fun W pn xe tk po => pss_one (ps_if (pt_cmpR op_eq (pv 0) pe_int (nomark _)) (pss_one (ps_set (i := 4) sc_cau.nd rfl (.inl rfl) (pe_hp p_form (hr.mono (by omega)) (pe_methSl (E := WE W) m_whole (hr.mono (by omega)) (passAt tk) (pv 1) (pa_cons (pv 2) pa_nil))))) (pss_one (ps_set (i := 4) sc_cau.nd rfl (.inl rfl) (pe_hp p_form (hr.mono (by omega)) (pe_getS (E := WE W) Dk.o_get ok_get (hr.mono (by omega)) (bn_getit Dk) (passAt tk) (pv 1) (pv 2))))))) (fun a oe cls d pn hz hv => pss_one (ps_set (i := 3) sc_cau.nd rfl (.inl rfl) (pv 5)))) (pss_cons (ps_if (pt_cmpR op_isN (pv 3) pe_non (nomark _)) (pss_one (ps_ret (pe_lst (pa_cons pe_str (pa_cons (pv 4) pa_nil))))) pss_nil) (pss_cons (ps_if (pt_val (pe_callB (call_is2 K rfl Y) rfl g_isinstance Boot.«isinstance» (pa_cons (pv 3) (pa_cons (pe_glob rfl N1.g (v := .ref _) rfl) pa_nil)))) (pss_one (ps_ret (pe_lst (pa_cons pe_str (pa_cons (pe_xk Y.xN N1.nf (pv 3)) pa_nil))))) pss_nil) (pss_one (ps_ret (pe_ix (ixL K) (pe_lst (pa_cons (pe_lst (pa_cons pe_str (pa_cons pe_non pa_nil))) (pa_cons (pe_lst (pa_cons pe_str (pa_cons (pe_xk Y.xC N2.nf (pv 3)) pa_nil))) pa_nil))) (pe_callTy call_int1 rfl g_int Boot.«int» (pa_cons (pe_callB (call_is2 K rfl Y) rfl g_isinstance Boot.«isinstance» (pa_cons (pv 3) (pa_cons (pe_glob rfl N2.g (v := .ref _) rfl) pa_nil))) pa_nil)) (by intro _ _; rfl))))))))), ?_⟩)
  subst ev
  have hd' := hd.desk
  obtain ⟨dx, dk, ws, xs, h1, _⟩ := hd.at_
  refine asg2_name fun C hC => ?_
  have form : ∀ (r : V) (f : Fm) (H1 : Hp), FmAt K H1 f r → (∀ l H', Same H1 H' → H' l = some (.lst [.str "form", r]) → FmAt K H' f r → Q (.ref l) H') → C [some (.int way), some (.ref a), some x, some .non, some r, none] H1 := by
    intro r f H1 hf q
    rw [hC]
    refine ⟨_, rfl, rfl, _, rfl, ?_⟩
    refine ifT (decide_eq_true rfl) ?_
    refine ⟨_, rfl, le_line (by simp), fun l hl => ?_⟩
    have s := Same.upd (o := .lst [.str "form", r]) hl
    exact q l _ s upd_same (hf.same s)
  have miss : ∀ (e d : Addr) (H1 : Hp), Same H H1 → H1 e = some (exk e (.ref (NC K)) (some d)) → H1 d = some (.xd [("name", x)]) → (∀ l H', Same H H' → H' l = some (.lst [.str "missing", x]) → Q (.ref l) H') → C [some (.int way), some (.ref a), some x, some (.ref e), some .non, none] H1 := by
    intro e d H1 s1 he hd q
    rw [hC]
    refine ⟨_, rfl, rfl, _, rfl, ?_⟩
    refine ifF (decide_eq_false (fun h => nomatch h)) ?_
    refine ⟨_, rfl, .inl ⟨e, d, _, _, _, true, rfl, .own _, he, hd, Y.k1, _, rfl, ?_⟩⟩
    refine ifT rfl ?_
    refine ⟨_, rfl, e, d, _, x, rfl, he, hd, rfl, le_line (by simp), fun l hl => ?_⟩
    exact q l _ (s1.trans (Same.upd hl)) upd_same
  have round : ∀ (e d q0 : Addr) (H1 : Hp), Same H H1 → H1 e = some (exk e (.ref (CC K)) (some d)) → H1 d = some (.xd [("ring", .ref q0)]) → (∀ l H', Same H1 H' → H' l = some (.lst [.str "round", .ref q0]) → Q (.ref l) H') → C [some (.int way), some (.ref a), some x, some (.ref e), some .non, none] H1 := by
    intro e d q0 H1 s1 he hd q
    rw [hC]
    refine ⟨_, rfl, rfl, _, rfl, ?_⟩
    refine ifF (decide_eq_false (fun h => nomatch h)) ?_
    refine ⟨_, rfl, .inr ⟨e, d, _, _, _, false, rfl, .own _, he, hd, Y.k2, _, rfl, ?_⟩⟩
    refine ifF rfl ?_
    refine ⟨le_line (by simp), fun l1 hl1 => ?_⟩
    have s2 := Same.upd (o := .lst [.str "other", .non]) hl1
    refine ⟨_, rfl, e, d, _, _, rfl, s2 _ _ he, s2 _ _ hd, rfl, le_line (by simp), fun l2 hl2 => ?_⟩
    have s3 := s2.trans (Same.upd (o := .lst [.str "round", .ref q0]) hl2)
    have e2 : (upd (upd H1 l1 (.lst [.str "other", .non])) l2 (.lst [.str "round", .ref q0])) l2 = some (.lst [.str "round", .ref q0]) := upd_same
    generalize (upd (upd H1 l1 (.lst [.str "other", .non])) l2 (.lst [.str "round", .ref q0])) = H3 at s3 e2 ⊢
    refine ⟨le_line (by simp), fun l3 hl3 => ?_⟩
    have s4 := Same.upd (o := .lst [.ref l1, .ref l2]) hl3
    refine ⟨_, rfl, .inr ⟨e, d, _, _, _, true, rfl, .own _, (s3.trans s4) _ _ he, (s3.trans s4) _ _ hd, Y.k3, .inr ⟨true, rfl, ?_⟩⟩⟩
    refine ⟨l3, _, 1, .ref l2, rfl, rfl, sqL_of upd_same, rfl, ?_⟩
    exact q l2 _ (s3.trans s4) (s4 _ _ e2)
  clear hC
  refine ⟨_, rfl, rfl, _, rfl, ?_⟩
  rw [decI]
  rcases hway with rfl | rfl
  · refine ifT rfl ?_
    refine ⟨_, rfl, a, dx, _, rfl, h1, rfl, _, rfl, a, pl, M, c, x, b, rfl, hd, hx, fun hb d H1 s1 e1 => ?_, fun hb n en => ⟨fun hc f r H1 hf s1 m1 => ?_, fun hc q d H1 s1 e1 e2 => ?_⟩⟩
    · refine ⟨Y.exN, fun e he => ?_⟩
      refine ⟨_, rfl, fun he2 => ?_⟩
      have s2 := Same.upd (o := exk e (.ref (NC K)) (some d)) he
      exact miss e d _ (s1.trans s2) upd_same (s2 _ _ e1) (hF hb)
    · obtain ⟨g, dy, sy, rfl, k1, k2⟩ := m1
      refine ⟨g, dy, _, rfl, k1, g, dy, sy, rfl, k1, ?_⟩
      obtain ⟨_, t2, _⟩ := hT hb n f en hf
      exact form sy _ H1 k2 fun l H' s2 e2 m2 => t2 rfl hc l sy H' (s1.trans s2) e2 m2
    · obtain ⟨f, hf⟩ : ∃ f, M.lookup n = some f := by
        rcases hx with ⟨z, rfl, _, e3⟩ | ⟨_, _, _, e3⟩
        · cases en
          rw [hb] at e3
          exact lookup_some.mpr (of_decide_eq_true (Bool.and_eq_true_iff.mp e3.symm).2)
        · rw [hb] at e3
          cases e3
      refine ⟨Y.exC, fun e he => ?_⟩
      refine ⟨_, rfl, fun he2 => ?_⟩
      have s2 := Same.upd (o := exk e (.ref (CC K)) (some d)) he
      obtain ⟨_, _, t3⟩ := hT hb n f en hf
      exact round e d q _ (s1.trans s2) upd_same (s2 _ _ e2) fun l H' s3 e3 => t3 rfl hc l q H' ((s1.trans s2).trans s3) e3 (s3 _ _ (s2 _ _ e1))
  · refine ifF rfl ?_
    refine ⟨_, rfl, _, rfl, a, dx, _, rfl, h1, a, pl, M, c, x, b, rfl, hd', hx, fun hb n f v H1 en hf s1 m1 => ?_, fun hb d H1 s1 e1 => ?_⟩
    · obtain ⟨g, dy, sy, rfl, k1, k2⟩ := m1
      refine ⟨g, dy, _, rfl, k1, g, dy, sy, rfl, k1, ?_⟩
      obtain ⟨t1, _, _⟩ := hT hb n f en hf
      exact form sy _ H1 k2 fun l H' s2 e2 m2 => t1 rfl l sy H' (s1.trans s2) e2 m2
    · refine ⟨Y.exN, fun e he => ?_⟩
      refine ⟨_, rfl, fun he2 => ?_⟩
      have s2 := Same.upd (o := exk e (.ref (NC K)) (some d)) he
      exact miss e d _ (s1.trans s2) upd_same (s2 _ _ e1) (hF hb)
end
end Q41
set_option maxRecDepth 100000
set_option maxHeartbeats 4000000
/-! The law, 16: the fixed desks. -/
namespace Q41
open PySem PySem.Spec PyProof.Rows L2

structure DocEq (K : PySem.W.Frag) : Prop where
  o_eq : GetOf K (DC K) (He.ma K (DC K) "__eq__") "__eq__"
  d_eq : DefAt K "__eq__" "Doc.__eq__" (mem 20 8) [] (He.ma K (DC K) "__eq__")
  first : PySem.W.notFirst K (DC K) (.ref (DC K)) = true
theorem shaped_fm {f : Fm} (h : f.ok = true) (d : f.depth ≤ 60) : SeqAt.shaped f.data = true := by
  unfold SeqAt.shaped
  rw [Bool.and_eq_true, decide_eq_true_eq]
  have := data_depth f
  exact ⟨data_lay h, by omega⟩
theorem eqv_fm {f : Fm} (h : f.ok = true) : PyData.eqv f.data f.data = true := PySem.SeqAt.eqv_refl _ (data_lay h)
theorem own_add {K : PySem.W.Frag} {H : Hp} {f g : Fm} {v u : V} {Q : VK} (h1 : DocAt K H f v) (h2 : DocAt K H g u) (q : ∀ r H', Same H H' → DocAt K H' (.joi f g) r → Q r H') : rOwn (DC K) (sp_add K) E0 v u H Q := by
  obtain ⟨b, dx, sx, rfl, e1, e2⟩ := id h1
  obtain ⟨c, dy, sy, rfl, e3, e4⟩ := id h2
  exact ⟨b, c, dx, dy, _, _, rfl, rfl, e1, e3, f, g, _, _, rfl, h1, h2, q⟩
theorem desk_set {K : PySem.W.Frag} {i : Nat} {u : TS} {D : Ends} {σ : L2.St} {H : Hp} (q : ∀ a pl H', Same H H' → H a = none → H pl = none → DeskO K H' [] 0 a pl → DkNew K H H' a → u D (σ.set i (some (.ref a))) H') : tSeq (tAsg (tMake (KC K) (spKInit K) [] E0 tNil) (gName i)) u D σ H :=
  fun x dx hx hdx hne => mk_desk (Q := fun v H' => u D (σ.set i (some v)) H') q x dx hx hdx hne
def M1 : Kp := [("a", .hol "b"), ("b", .joi (.hol "b") (.hol "c")), ("c", .txt "x")]
def M2 : Kp := [("ab", .hol "b"), ("b", .txt "x"), ("a", .joi (.joi (.hol "ab") (.hol "doc")) (.hol "self")), ("doc", .hol "b")]
theorem DeskO.ins {K : PySem.W.Frag} {H : Hp} {M : Kp} {c : Nat} {a pl : Addr} (d : DeskO K H M c a pl) : ∃ dx fs, H a = some (.ins (KC K) dx fs) ∧ ∀ m : Str, m ≠ "kept" → m ≠ "wide" → m ≠ "past" → fs.lookup m = none := by
  obtain ⟨dx, dk, ws, xs, h1, _⟩ := d.at_
  refine ⟨dx, _, h1, fun m n1 n2 n3 => ?_⟩
  have e1 : (m == ("kept" : Str)) = false := by simpa using n1
  have e2 : (m == ("wide" : Str)) = false := by simpa using n2
  have e3 : (m == ("past" : Str)) = false := by simpa using n3
  simp [List.lookup, e1, e2, e3]
section
variable {P : Program} {w : World} {K : PySem.W.Frag} {mg : Str → Option Value} {base : Heap} {f fA fM fD fR fN fS fI fF fP fL : Addr}
theorem sc_deq : FnScope ["self", "other"] ["self", "other"] (defScope (mem 20 8)) := mkScope
def spDeq (K : PySem.W.Frag) : Sp := fun vs H Q _ => ∃ f v u, vs = [v, u] ∧ DocAt K H f v ∧ DocAt K H f u ∧ f.ok = true ∧ f.depth ≤ 60 ∧ Q (.bl true) H
theorem ok_deq (D : DocTx K mg) (Z : DocEq K) (g_isinstance : mg "isinstance" = none) : FnOk P w K mg base (L2.CX P w) 1 (He.ma K (DC K) "__eq__") (fdOf K (He.ma K (DC K) "__eq__")) ["self", "other"] (spDeq K) := by
  refine Z.d_eq.ok sc_deq (fun vs H Q E ⟨_, _, _, e, _⟩ => by rw [e] <;> rfl) (fun cdv A outer s H vs Q E hr ⟨f, v, u, ev, hv, hu, hok, hdp, hQ⟩ => ⟨_, PSs.nox (pss_one (ps_ret (pe_and (pe_callB (isi K) rfl g_isinstance Boot.«isinstance» (pa_cons (pv 1) (pa_cons (pe_glob rfl D.g (v := .ref _) rfl) pa_nil))) (pe_one (pe_cmpR (eqD K rfl (units64 hr)) (fld K (pv 0)) (fld K (pv 1)) (nomark _)))))), ?_⟩)
  subst ev
  refine ⟨_, rfl, _, _, _, _, _, rfl, .own _, D.ty hu, D.o_isi, _, rfl, ?_⟩
  refine ifT rfl ?_
  obtain ⟨a, dx, x, rfl, h1, h2⟩ := hv
  obtain ⟨b, dy, y, rfl, h3, h4⟩ := hu
  refine ⟨_, rfl, a, _, dx, _, x, rfl, h1, D.c, D.sh, rfl, _, rfl, b, _, dy, _, y, rfl, h3, D.c, D.sh, rfl, f.data, f.data, h2.dp, h4.dp, shaped_fm hok hdp, shaped_fm hok hdp, ?_⟩
  rw [eqv_fm hok]
  exact hQ
theorem bn_deq (Z : DocEq K) : Binds K (fdOf K (He.ma K (DC K) "__eq__")) ["self", "other"] [] := Z.d_eq.bindsN fun _ _ _ _ _ _ us hl => match us, hl with | [_, _], _ => rfl
theorem bn_order (D : DeskTx K mg) : Binds K (fdOf K (He.ma K (KC K) "order")) ["self"] [] := D.d_order.bindsN fun _ _ _ _ _ _ us hl => match us, hl with | [_], _ => rfl
theorem sc_fix : FnScope ["_law_desk", "_law_told", "_law_name"] [] (defScope (top 48)) := mkScope
def spFix : Sp := fun vs H Q _ => vs = [] ∧ ∀ H', Same H H' → Q (.bl true) H'
theorem has_fix (T : TopDef K mg "_law_fixed_right" (top 48) [] f) (Dc : DocTx K mg) (Dk : DeskTx K mg) (Z : DocEq K) (g_isinstance : mg "isinstance" = none) (h_require_doc : Has P w K mg base 1 "require_doc" fR ["thing"] (spReq K)) (h_Desk : HasC P w K mg base 1 "Desk" (KC K) (He.ma K (KC K) "__init__") ["self"] (spKInit K)) (m_put : HasM P w K mg base 3 (KC K) "put" (He.ma K (KC K) "put") ["self", "name", "doc"] (spPut K))
    (h_text : Has P w K mg base 3 "text" fS ["string"] (spText K)) (h_hole : Has P w K mg base 3 "hole" fI ["name"] (spHole K)) (h__law_caught : Has P w K mg base 41 "_law_caught" fA ["_law_way", "_law_desk", "_law_name"] (spCau K)) (gf_order : GFnJ P w K mg base 6 (He.ma K (KC K) "order") (fdOf K (He.ma K (KC K) "order")) ["self"] (spOrder K)) (m_whole : HasM P w K mg base 40 (KC K) "whole" (He.ma K (KC K) "whole") ["self", "name"] (spWhole K)) :
    Has P w K mg base 42 "_law_fixed_right" f [] spFix := by
  refine mkHas T ?_ (T.d.bindsN fun _ _ _ _ _ _ us hl => match us, hl with | [], _ => rfl)
  refine T.d.ok sc_fix (fun vs H Q E ⟨e, _⟩ => by rw [e] <;> rfl) (fun cdv A outer s H vs Q E hr ⟨ev, hQ⟩ => ⟨_, PSs.nox (pss_cons (ps_set (i := 0) sc_fix.nd rfl (.inl rfl) (pe_hk0 h_Desk (hr.mono (by omega)) rfl)) (pss_cons (ps_expr (pe_hm m_put (hr.mono (by omega)) (pv 0) (pa_cons pe_str (pa_cons (pe_hc h_hole (hr.mono (by omega)) rfl (pa_cons pe_str pa_nil)) pa_nil)))) (pss_cons (ps_expr (pe_hm m_put (hr.mono (by omega)) (pv 0) (pa_cons pe_str (pa_cons (pe_op (op_own Dc.o_add (ok_add Dc h_require_doc) (hr.mono (by omega)) (bn_add Dc) passL) (pe_hc h_hole (hr.mono (by omega)) rfl (pa_cons pe_str pa_nil)) (pe_hc h_hole (hr.mono (by omega)) rfl (pa_cons pe_str pa_nil))) pa_nil)))) (pss_cons (ps_expr (pe_hm m_put (hr.mono (by omega)) (pv 0) (pa_cons pe_str (pa_cons (pe_hc h_text (hr.mono (by omega)) rfl (pa_cons pe_str pa_nil)) pa_nil)))) (pss_cons (ps_set (i := 1) sc_fix.nd rfl (.inl rfl) (pe_lst (pa_cons (pe_hc h__law_caught (hr.mono (by omega)) rfl (pa_cons pe_int (pa_cons (pv 0) (pa_cons pe_str pa_nil)))) (pa_cons (pe_hc h__law_caught (hr.mono (by omega)) rfl (pa_cons pe_int (pa_cons (pv 0) (pa_cons pe_str pa_nil)))) (pa_cons (pe_lcJ rfl (pgenJ_meth0 (pv 0) Dk.c Dk.m_order gf_order (hr.mono (by omega)) (bn_order Dk)) (hr.mono (by omega)) rfl rfl (by decide +kernel)) pa_nil))))) (pss_cons (ps_if (pt_cmpR (neD K rfl (units64 hr)) (pv 1) (pe_lst (pa_cons (pe_lst (pa_cons pe_str (pa_cons (pe_tup (pa_cons pe_str pa_nil)) pa_nil))) (pa_cons (pe_lst (pa_cons pe_str (pa_cons (pe_tup (pa_cons pe_str (pa_cons pe_str pa_nil))) pa_nil))) (pa_cons (pe_lst (pa_cons pe_str pa_nil)) pa_nil)))) (nomark _)) (pss_one (ps_ret pe_bl)) pss_nil) (pss_cons (ps_set (i := 0) sc_fix.nd rfl (.inl rfl) (pe_hk0 h_Desk (hr.mono (by omega)) rfl)) (pss_cons (ps_expr (pe_hm m_put (hr.mono (by omega)) (pv 0) (pa_cons pe_str (pa_cons (pe_hc h_hole (hr.mono (by omega)) rfl (pa_cons pe_str pa_nil)) pa_nil)))) (pss_cons (ps_expr (pe_hm m_put (hr.mono (by omega)) (pv 0) (pa_cons pe_str (pa_cons (pe_hc h_text (hr.mono (by omega)) rfl (pa_cons pe_str pa_nil)) pa_nil)))) (pss_cons (ps_expr (pe_hm m_put (hr.mono (by omega)) (pv 0) (pa_cons pe_str (pa_cons (pe_op (op_own Dc.o_add (ok_add Dc h_require_doc) (hr.mono (by omega)) (bn_add Dc) passL) (pe_op (op_own Dc.o_add (ok_add Dc h_require_doc) (hr.mono (by omega)) (bn_add Dc) passL) (pe_hc h_hole (hr.mono (by omega)) rfl (pa_cons pe_str pa_nil)) (pe_hc h_hole (hr.mono (by omega)) rfl (pa_cons pe_str pa_nil))) (pe_hc h_hole (hr.mono (by omega)) rfl (pa_cons pe_str pa_nil))) pa_nil)))) (pss_cons (ps_expr (pe_hm m_put (hr.mono (by omega)) (pv 0) (pa_cons pe_str (pa_cons (pe_hc h_hole (hr.mono (by omega)) rfl (pa_cons pe_str pa_nil)) pa_nil)))) (pss_cons (ps_if (pt_cmpR (neD K rfl (units64 hr)) (pe_lcJ rfl (pgenJ_meth0 (pv 0) Dk.c Dk.m_order gf_order (hr.mono (by omega)) (bn_order Dk)) (hr.mono (by omega)) rfl rfl (by decide +kernel)) (pe_lst (pa_cons pe_str (pa_cons pe_str (pa_cons pe_str (pa_cons pe_str pa_nil))))) (nomark _)) (pss_one (ps_ret pe_bl)) pss_nil) (pss_one (ps_ret (pe_cmpR (op_eqO Z.o_eq Z.first (ok_deq Dc Z g_isinstance) (hr.mono (by omega)) (bn_deq Z)) (pe_hm m_whole (hr.mono (by omega)) (pv 0) (pa_cons pe_str pa_nil)) (pe_op (op_own Dc.o_add (ok_add Dc h_require_doc) (hr.mono (by omega)) (bn_add Dc) passL) (pe_op (op_own Dc.o_add (ok_add Dc h_require_doc) (hr.mono (by omega)) (bn_add Dc) passL) (pe_hc h_text (hr.mono (by omega)) rfl (pa_cons pe_str pa_nil)) (pe_hc h_text (hr.mono (by omega)) rfl (pa_cons pe_str pa_nil))) (pe_hc h_hole (hr.mono (by omega)) rfl (pa_cons pe_str pa_nil))) (nomark _)))))))))))))))), ?_⟩)
  subst ev
  refine desk_set fun a1 pl1 K0 s0 ha1 hp1 d0 _ => ?_
  obtain ⟨x0, y0, i0, z0⟩ := d0.ins
  refine ⟨_, rfl, _, x0, y0, rfl, i0, z0 _ (by decide) (by decide) (by decide), ?_⟩
  refine ⟨"b", rfl, by decide +kernel, fun r1 G1 t1 m1 => ?_⟩
  refine ⟨a1, pl1, _, 0, "a", (.hol "b"), _, rfl, (d0.same t1).desk, by omega, by decide +kernel, by decide +kernel, by decide, by decide +kernel, m1, fun K1 B1 d1 _ => ?_⟩
  have s1 := B1.same (s0.trans t1) ha1 hp1
  obtain ⟨x1, y1, i1, z1⟩ := d1.ins
  refine ⟨_, rfl, _, x1, y1, rfl, i1, z1 _ (by decide) (by decide) (by decide), ?_⟩
  refine ⟨"b", rfl, by decide +kernel, fun r2 G2 t2 m2 => ?_⟩
  refine ⟨"c", rfl, by decide +kernel, fun r3 G3 t3 m3 => ?_⟩
  refine own_add (m2.same t3) m3 fun r4 G4 t4 m4 => ?_
  have u4 := (t2.trans t3).trans t4
  refine ⟨a1, pl1, _, 1, "b", (.joi (.hol "b") (.hol "c")), _, rfl, (d1.same u4).desk, by omega, by decide +kernel, by decide +kernel, by decide, by decide +kernel, m4, fun K2 B2 d2 _ => ?_⟩
  have s2 := B2.same (s1.trans u4) ha1 hp1
  obtain ⟨x2, y2, i2, z2⟩ := d2.ins
  refine ⟨_, rfl, _, x2, y2, rfl, i2, z2 _ (by decide) (by decide) (by decide), ?_⟩
  refine ⟨"x", rfl, by decide +kernel, fun r5 G5 t5 m5 => ?_⟩
  refine ⟨a1, pl1, _, 2, "c", (.txt "x"), _, rfl, (d2.same t5).desk, by omega, by decide +kernel, by decide +kernel, by decide, by decide +kernel, m5, fun K3 B3 d3 _ => ?_⟩
  have s3 := B3.same (s2.trans t5) ha1 hp1
  have hM : putA (putA (putA [] "a" (.hol "b")) "b" (.joi (.hol "b") (.hol "c"))) "c" (.txt "x") = M1 := rfl
  rw [hM] at d3
  refine ⟨_, rfl, 0, a1, pl1, M1, 3, .str "a", true, rfl, .inl rfl, d3, .inl ⟨"a", rfl, by decide +kernel, by decide +kernel⟩, (fun h => nomatch h), fun _ n f en hf => ⟨fun h => absurd h (by decide), fun _ hc => ?_, fun _ hc l1 q1 J1 v1 e1 e2 => ?_⟩⟩
  · cases en
    exact absurd hc (by decide +kernel)
  cases en
  rw [show circ M1 "a" = [("b" : Str)] by decide +kernel] at e2
  clear hf hc
  refine ⟨_, rfl, 0, a1, pl1, M1, 3, .str "c", true, rfl, .inl rfl, d3.same v1, .inl ⟨"c", rfl, by decide +kernel, by decide +kernel⟩, (fun h => nomatch h), fun _ n f en hf => ⟨fun h => absurd h (by decide), fun _ hc l2 r2 J2 v2 e3 m6 => ?_, fun _ hc => ?_⟩⟩
  rotate_left
  · cases en
    exact absurd (show circ M1 "c" = [] by decide +kernel) hc
  cases en
  cases (show some (Fm.txt "x") = some f from hf)
  have m7 : FmAt K J2 (.txt "x") r2 := m6
  clear m6 hf hc
  have v12 := v1.trans v2
  refine ⟨(ord M1).map .str, by decide +kernel, _, rfl, a1, _, _, rfl, v12 _ _ d3.ins.choose_spec.choose_spec.1, d3.ins.choose_spec.choose_spec.2 _ (by decide) (by decide) (by decide), a1, pl1, M1, 3, rfl, (d3.same v12).desk, rfl, fun J3 v3 l3 hl3 => ?_⟩
  rw [show ord M1 = [("c" : Str)] by decide +kernel]
  have v4 := v3.trans (Same.upd (o := .lst ([("c" : Str)].map V.str)) hl3)
  have f3 : (upd J3 l3 (.lst ([("c" : Str)].map V.str))) l3 = some (.lst [.str "c"]) := upd_same
  generalize (upd J3 l3 (.lst ([("c" : Str)].map V.str))) = J4 at v4 f3 ⊢
  refine ⟨le_line (by simp), fun l4 hl4 => ?_⟩
  have v5 := v4.trans (Same.upd (o := .lst [.ref l1, .ref l2, .ref l3]) hl4)
  have f4 : (upd J4 l4 (.lst [.ref l1, .ref l2, .ref l3])) l4 = some (.lst [.ref l1, .ref l2, .ref l3]) := upd_same
  have f3 := (Same.upd (o := .lst [.ref l1, .ref l2, .ref l3]) hl4) _ _ f3
  generalize (upd J4 l4 (.lst [.ref l1, .ref l2, .ref l3])) = J5 at v5 f3 f4 ⊢
  refine ⟨_, rfl, ?_⟩
  refine ⟨le_line (by simp), fun b1 h1 => ?_⟩
  have w1 := Same.upd (o := .tup [.str "b"]) h1
  have c1 : (upd J5 b1 (.tup [.str "b"])) b1 = some (.tup [.str "b"]) := upd_same
  generalize (upd J5 b1 (.tup [.str "b"])) = J6 at w1 c1 ⊢
  refine ⟨le_line (by simp), fun b2 h2 => ?_⟩
  have w2 := Same.upd (o := .lst [.str "round", .ref b1]) h2
  have c2 : (upd J6 b2 (.lst [.str "round", .ref b1])) b2 = some (.lst [.str "round", .ref b1]) := upd_same
  generalize (upd J6 b2 (.lst [.str "round", .ref b1])) = J7 at w2 c2 ⊢
  refine ⟨le_line (by simp), fun b3 h3 => ?_⟩
  have w3 := Same.upd (o := .tup [.str "text", .str "x"]) h3
  have c3 : (upd J7 b3 (.tup [.str "text", .str "x"])) b3 = some (.tup [.str "text", .str "x"]) := upd_same
  generalize (upd J7 b3 (.tup [.str "text", .str "x"])) = J8 at w3 c3 ⊢
  refine ⟨le_line (by simp), fun b4 h4 => ?_⟩
  have w4 := Same.upd (o := .lst [.str "form", .ref b3]) h4
  have c4 : (upd J8 b4 (.lst [.str "form", .ref b3])) b4 = some (.lst [.str "form", .ref b3]) := upd_same
  generalize (upd J8 b4 (.lst [.str "form", .ref b3])) = J9 at w4 c4 ⊢
  refine ⟨le_line (by simp), fun b5 h5 => ?_⟩
  have w5 := Same.upd (o := .lst [.str "c"]) h5
  have c5 : (upd J9 b5 (.lst [.str "c"])) b5 = some (.lst [.str "c"]) := upd_same
  generalize (upd J9 b5 (.lst [.str "c"])) = J10 at w5 c5 ⊢
  refine ⟨le_line (by simp), fun b6 h6 => ?_⟩
  have w6 := Same.upd (o := .lst [.ref b2, .ref b4, .ref b5]) h6
  have c6 : (upd J10 b6 (.lst [.ref b2, .ref b4, .ref b5])) b6 = some (.lst [.ref b2, .ref b4, .ref b5]) := upd_same
  generalize (upd J10 b6 (.lst [.ref b2, .ref b4, .ref b5])) = J11 at w6 c6 ⊢
  have W := (((((w1.trans w2).trans w3).trans w4).trans w5).trans w6)
  have g1 := ((((w2.trans w3).trans w4).trans w5).trans w6) _ _ c1
  have g2 := (((w3.trans w4).trans w5).trans w6) _ _ c2
  have g3 := ((w4.trans w5).trans w6) _ _ c3
  have g4 := (w5.trans w6) _ _ c4
  have g5 := w6 _ _ c5
  have vv := v5.trans W
  have k1 := (v2.trans vv) _ _ e1
  have k2 := (v2.trans vv) _ _ e2
  have k3 := vv _ _ e3
  have k4 := m7.same vv
  have k5 := W _ _ f3
  have k6 := W _ _ f4
  refine ⟨.list [.list [.str "round", .tuple [.str "b"]], .list [.str "form", (Fm.txt "x").data], .list [.str "c"]], .list [.list [.str "round", .tuple [.str "b"]], .list [.str "form", (Fm.txt "x").data], .list [.str "c"]], .lst (sqL_of k6) (.cons (.lst (sqL_of k1) (.cons (.str _) (.cons (.tup (sqT_of k2) (.cons (.str _) .nil)) .nil))) (.cons (.lst (sqL_of k3) (.cons (.str _) (.cons k4.dp .nil))) (.cons (.lst (sqL_of k5) (.cons (.str _) .nil)) .nil))),
    .lst (sqL_of c6) (.cons (.lst (sqL_of g2) (.cons (.str _) (.cons (.tup (sqT_of g1) (.cons (.str _) .nil)) .nil))) (.cons (.lst (sqL_of g4) (.cons (.str _) (.cons (.tup (sqT_of g3) (.cons (.str _) (.cons (.str _) .nil))) .nil))) (.cons (.lst (sqL_of g5) (.cons (.str _) .nil)) .nil))), by decide +kernel, by decide +kernel, ?_⟩
  rw [show PyData.eqv (.list [.list [.str "round", .tuple [.str "b"]], .list [.str "form", (Fm.txt "x").data], .list [.str "c"]]) (.list [.list [.str "round", .tuple [.str "b"]], .list [.str "form", (Fm.txt "x").data], .list [.str "c"]]) = true by decide +kernel]
  refine ⟨_, rfl, ifF rfl ?_⟩
  have sA := s3.trans (v12.trans vv)
  clear d0 d1 d2 d3
  dsimp only [tNext]
  refine desk_set fun a2 pl2 K10 s10 ha2 hp2 d10 _ => ?_
  obtain ⟨x10, y10, i10, z10⟩ := d10.ins
  refine ⟨_, rfl, _, x10, y10, rfl, i10, z10 _ (by decide) (by decide) (by decide), ?_⟩
  refine ⟨"b", rfl, by decide +kernel, fun r21 G21 t21 m21 => ?_⟩
  refine ⟨a2, pl2, _, 0, "ab", (.hol "b"), _, rfl, (d10.same t21).desk, by omega, by decide +kernel, by decide +kernel, by decide, by decide +kernel, m21, fun K11 B11 d11 _ => ?_⟩
  have s11 := B11.same (s10.trans t21) ha2 hp2
  obtain ⟨x11, y11, i11, z11⟩ := d11.ins
  refine ⟨_, rfl, _, x11, y11, rfl, i11, z11 _ (by decide) (by decide) (by decide), ?_⟩
  refine ⟨"x", rfl, by decide +kernel, fun r22 G22 t22 m22 => ?_⟩
  refine ⟨a2, pl2, _, 1, "b", (.txt "x"), _, rfl, (d11.same t22).desk, by omega, by decide +kernel, by decide +kernel, by decide, by decide +kernel, m22, fun K12 B12 d12 _ => ?_⟩
  have s12 := B12.same (s11.trans t22) ha2 hp2
  obtain ⟨x12, y12, i12, z12⟩ := d12.ins
  refine ⟨_, rfl, _, x12, y12, rfl, i12, z12 _ (by decide) (by decide) (by decide), ?_⟩
  refine ⟨"ab", rfl, by decide +kernel, fun r23 G23 t23 m23 => ?_⟩
  refine ⟨"doc", rfl, by decide +kernel, fun r24 G24 t24 m24 => ?_⟩
  refine own_add (m23.same t24) m24 fun r25 G25 t25 m25 => ?_
  have u25 := (t23.trans t24).trans t25
  refine ⟨"self", rfl, by decide +kernel, fun r26 G26 t26 m26 => ?_⟩
  refine own_add (m25.same t26) m26 fun r27 G27 t27 m27 => ?_
  have u27 := (u25.trans t26).trans t27
  refine ⟨a2, pl2, _, 2, "a", (.joi (.joi (.hol "ab") (.hol "doc")) (.hol "self")), _, rfl, (d12.same u27).desk, by omega, by decide +kernel, by decide +kernel, by decide, by decide +kernel, m27, fun K13 B13 d13 _ => ?_⟩
  have s13 := B13.same (s12.trans u27) ha2 hp2
  obtain ⟨x13, y13, i13, z13⟩ := d13.ins
  refine ⟨_, rfl, _, x13, y13, rfl, i13, z13 _ (by decide) (by decide) (by decide), ?_⟩
  refine ⟨"b", rfl, by decide +kernel, fun r28 G28 t28 m28 => ?_⟩
  refine ⟨a2, pl2, _, 3, "doc", (.hol "b"), _, rfl, (d13.same t28).desk, by omega, by decide +kernel, by decide +kernel, by decide, by decide +kernel, m28, fun K14 B14 d14 _ => ?_⟩
  have s14 := B14.same (s13.trans t28) ha2 hp2
  have hM : putA (putA (putA (putA [] "ab" (.hol "b")) "b" (.txt "x")) "a" (.joi (.joi (.hol "ab") (.hol "doc")) (.hol "self"))) "doc" (.hol "b") = M2 := rfl
  rw [hM] at d14
  obtain ⟨xq, yq, iq, zq⟩ := d14.ins
  refine ⟨(ord M2).map .str, by decide +kernel, _, rfl, a2, _, _, rfl, iq, zq _ (by decide) (by decide) (by decide), a2, pl2, M2, 4, rfl, d14.desk, rfl, fun P1 q1 l hl => ?_⟩
  rw [show ord M2 = [("b" : Str), "ab", "doc", "a"] by decide +kernel]
  have q2 := q1.trans (Same.upd (o := .lst ([("b" : Str), "ab", "doc", "a"].map V.str)) hl)
  have el : (upd P1 l (.lst ([("b" : Str), "ab", "doc", "a"].map V.str))) l = some (.lst ([("b" : Str), "ab", "doc", "a"].map V.str)) := upd_same
  generalize (upd P1 l (.lst ([("b" : Str), "ab", "doc", "a"].map V.str))) = P2 at q2 el ⊢
  refine ⟨le_line (by simp), fun e he => ?_⟩
  have q3 := Same.upd (o := .lst [.str "b", .str "ab", .str "doc", .str "a"]) he
  have ee : (upd P2 e (.lst [.str "b", .str "ab", .str "doc", .str "a"])) e = some (.lst ([("b" : Str), "ab", "doc", "a"].map V.str)) := upd_same
  generalize (upd P2 e (.lst [.str "b", .str "ab", .str "doc", .str "a"])) = P3 at q3 ee ⊢
  refine ⟨_, _, .lst (sqL_of (q3 _ _ el)) (dpAll_strs _), .lst (sqL_of ee) (dpAll_strs _), shaped_strs (by decide +kernel), shaped_strs (by decide +kernel), ?_⟩
  rw [eqv_strs]
  refine ⟨_, rfl, ifF (by decide +kernel) ?_⟩
  have q4 := q2.trans q3
  refine ⟨_, rfl, a2, _, _, rfl, q4 _ _ iq, zq _ (by decide) (by decide) (by decide), a2, pl2, M2, 4, .str "a", true, rfl, d14.same q4, .inl ⟨"a", rfl, by decide +kernel, by decide +kernel⟩, (fun h => nomatch h), fun _ n en => ⟨fun hc f r P4 hf q5 mr => ?_, fun hc => ?_⟩⟩
  rotate_left
  · cases en
    exact absurd (show circ M2 "a" = [] by decide +kernel) hc
  cases en
  cases (show some (Fm.joi (.joi (.hol "ab") (.hol "doc")) (.hol "self")) = some f from hf)
  have mr : DocAt K P4 (.joi (.joi (.txt "x") (.txt "x")) (.hol "self")) r := mr
  refine ⟨"x", rfl, by decide +kernel, fun r41 G41 t41 m41 => ?_⟩
  refine ⟨"x", rfl, by decide +kernel, fun r42 G42 t42 m42 => ?_⟩
  refine own_add (m41.same t42) m42 fun r43 G43 t43 m43 => ?_
  have u43 := (t41.trans t42).trans t43
  refine ⟨"self", rfl, by decide +kernel, fun r44 G44 t44 m44 => ?_⟩
  refine own_add (m43.same t44) m44 fun r45 G45 t45 m45 => ?_
  have u45 := (u43.trans t44).trans t45
  obtain ⟨ra, rdx, rs, rfl, r1, r2⟩ := id mr
  obtain ⟨ua, udx, us, rfl, u1, u2⟩ := id m45
  exact ⟨ra, ua, rdx, udx, _, _, rfl, rfl, u45 _ _ r1, u1, .joi (.joi (.txt "x") (.txt "x")) (.hol "self"), _, _, rfl, mr.same u45, m45, by decide +kernel, by decide, hQ _ (sA.trans (s14.trans (q4.trans (q5.trans u45))))⟩
end
end Q41
set_option maxRecDepth 100000
set_option maxHeartbeats 4000000
/-! Helps for the law. -/
namespace Q41
open PySem PySem.Spec PyProof.Rows L2
theorem fill_ok {g : Str → Option Fm} : ∀ {f : Fm}, f.ok = true → (∀ h k, g h = some k → k.ok = true) → (f.fill g).ok = true
  | .txt _, h, _ => h
  | .brk _, h, _ => h
  | .hol n, h, q => by
    unfold Fm.fill
    cases e : g n with
    | none => exact h
    | some k => exact q n k e
  | .joi a b, h, q => by
    obtain ⟨h1, h2⟩ := Bool.and_eq_true_iff.mp h
    exact Bool.and_eq_true_iff.mpr ⟨fill_ok h1 q, fill_ok h2 q⟩
  | .cho a b, h, q => by
    obtain ⟨h1, h2⟩ := Bool.and_eq_true_iff.mp h
    exact Bool.and_eq_true_iff.mpr ⟨fill_ok h1 q, fill_ok h2 q⟩
  | .nes k a, h, q => by
    obtain ⟨h1, h2⟩ := Bool.and_eq_true_iff.mp h
    exact Bool.and_eq_true_iff.mpr ⟨h1, fill_ok h2 q⟩
  | .grp a, h, q => fill_ok (f := a) h q
  | .fla a, h, q => fill_ok (f := a) h q
theorem lf_ok {M : Kp} (hM : ∀ n f, M.lookup n = some f → f.ok = true) : ∀ (k : Nat) (f : Fm), f.ok = true → (lf M k f).ok = true
  | 0, f, h => h
  | k + 1, f, h => by
    refine fill_ok h fun x j e => ?_
    cases ex : M.lookup x with
    | none => rw [ex] at e; cases e
    | some f2 =>
      rw [ex] at e
      cases e
      exact lf_ok hM k f2 (hM x f2 ex)
theorem whole_small {M : Kp} (G : Good M) (h5 : M.length ≤ 5) {n : Str} {f : Fm} (hf : M.lookup n = some f) (hc : circ M n = []) : (lf M 30 f).ok = true ∧ (lf M 30 f).depth ≤ 20 := by
  have hok : ∀ n f, M.lookup n = some f → f.ok = true := fun n f e => G.ok _ (mem_of_get e)
  have hdp : ∀ n f, M.lookup n = some f → f.depth ≤ 3 := fun n f e => G.dp _ (mem_of_get e)
  refine ⟨lf_ok hok 30 f (hok n f hf), ?_⟩
  have hn : n ∈ keys M := lookup_some.mp ⟨f, hf⟩
  have ht := ht_of hn hc
  have hkL := keys_len (M := M)
  obtain ⟨kk, ekk⟩ : ∃ kk, (keys M).length = kk + 1 := ⟨(keys M).length - 1, by have := List.length_pos_of_mem hn; omega⟩
  rw [ekk] at ht
  have hh := ht_htF ht hf
  rw [lf_stable hh (by omega : kk ≤ 29)]
  have := lf_depth hdp (kk + 1) f (hdp n f hf)
  have : (kk + 1) * 3 ≤ 15 := by omega
  omega
theorem shaped_form {f : Fm} (h : f.ok = true) (d : f.depth ≤ 50) : SeqAt.shaped (.list [.str "form", f.data]) = true := by
  unfold SeqAt.shaped
  rw [Bool.and_eq_true, decide_eq_true_eq]
  have h1 := data_depth f
  have h2 := data_lay h
  have e : PyData.strOk ("form" : Str) = true := by decide +kernel
  refine ⟨by simp [PyData.canLay0, PyData.canLayAll0, e, h2], ?_⟩
  simp only [PyData.depth, PyData.depthAll]
  omega
theorem eqv_form {f : Fm} (h : f.ok = true) : PyData.eqv (.list [.str "form", f.data]) (.list [.str "form", f.data]) = true := by
  have e : PyData.strOk ("form" : Str) = true := by decide +kernel
  exact PySem.SeqAt.eqv_refl _ (by simp [PyData.canLay0, PyData.canLayAll0, e, data_lay h])
theorem shaped_round {l : List Str} (h : ∀ x ∈ l, PyData.strOk x = true) : SeqAt.shaped (.list [.str "round", .tuple (l.map .str)]) = true := by
  unfold SeqAt.shaped
  rw [Bool.and_eq_true, decide_eq_true_eq]
  have e : PyData.strOk ("round" : Str) = true := by decide +kernel
  have h1 := depthAll_strs l
  refine ⟨by simp [PyData.canLay0, PyData.canLayAll0, e, canLayAll_strs h], ?_⟩
  simp only [PyData.depth, PyData.depthAll]
  omega
theorem eqv_of_shaped {d : PyData} (h : SeqAt.shaped d = true) : PyData.eqv d d = true := PySem.SeqAt.eqv_refl _ (SeqAt.canLay_of_shaped h)
/-- no name leads to itself where a rank falls -/
theorem circ_rank {M : Kp} (rk : Str → Nat) (h : ∀ x ∈ keys M, ∀ y ∈ used M x, rk y < rk x) (n : Str) : circ M n = [] := by
  have r : ∀ {x y : Str}, Reach M x y → rk y < rk x := by
    intro x y r
    have hx : ∀ {a b : Str}, b ∈ used M a → a ∈ keys M := fun {a b} hb => by
      unfold used at hb
      split at hb
      · rename_i f e
        exact lookup_some.mp ⟨f, e⟩
      · cases hb
    induction r with
    | one hy => exact h _ (hx hy) _ hy
    | more hy _ ih => exact Nat.lt_trans ih (h _ (hx hy) _ hy)
  rw [List.eq_nil_iff_forall_not_mem]
  intro x hx
  have := r (ledL_mem.mp (circ_mem.mp hx).2)
  omega
theorem DeskO.ex {K : PySem.W.Frag} {p : Addr} {H H' : Hp} {m : Nat} (x : Ex p H H') (hp : PurseAt H p m) {M : Kp} {c : Nat} {a pl : Addr} (hl : pl ≠ p) (d : DeskO K H M c a pl) : DeskO K H' M c a pl := by
  obtain ⟨dx, dk, ws, xs, h1, h2, h3, h4, h5⟩ := d.at_
  obtain ⟨_, _, _, e, _⟩ := id hp
  have na : a ≠ p := fun z => by rw [z, e] at h1; cases h1
  have nd : dk ≠ p := fun z => by rw [z, e] at h2; cases h2
  have docs : ∀ {ws : List (Str × V)} {gs : Kp}, DocsAt K H ws gs → DocsAt K H' ws gs := by
    intro ws
    induction ws with
    | nil => intro gs h; cases gs with
      | nil => trivial
      | cons => exact h.elim
    | cons q ws ih => intro gs h; cases gs with
      | nil => exact h.elim
      | cons g gs =>
        obtain ⟨k1, k2, k3⟩ := h
        refine ⟨k1, ?_, ih k3⟩
        obtain ⟨b, dy, s, z1, z2, z3⟩ := k2
        have nb : b ≠ p := fun z => by rw [z, e] at z2; cases z2
        exact ⟨b, dy, s, z1, x _ _ nb z2, x.fm hp z3⟩
  exact ⟨d.good, dx, dk, ws, xs, x _ _ na h1, x _ _ nd h2, docs h3, x _ _ hl h4, h5⟩
theorem KeptO.ex {K : PySem.W.Frag} {p : Addr} {H H' : Hp} {m : Nat} (x : Ex p H H') (hp : PurseAt H p m) {M : Kp} {d : Addr} (h : KeptO K H M d) : KeptO K H' M d := by
  obtain ⟨ws, h1, h2⟩ := h.at_
  obtain ⟨_, _, _, e, _⟩ := id hp
  have nd : d ≠ p := fun z => by rw [z, e] at h1; cases h1
  exact ⟨h.good, ws, x _ _ nd h1, x.forms hp h2⟩
theorem Ex.toSame {p : Addr} {H1 H H' : Hp} (x : Ex p H H') (s : Same H1 H) (h : H1 p = Option.none) : Same H1 H' := fun b o e => x b o (ne_of_none e h) (s _ _ e)
/-- a dict, going through it or not -/
def IsDk (o : HO) : Prop := (∃ us, o = .dK us) ∨ ∃ ob us, o = .frz ob (.dK us)
theorem sqT_wr {K : PySem.W.Frag} {H : Hp} {l : Addr} {o u : HO} (hl : H l = some o) (ho : IsDk o) (a : Addr) (xs : List V) (h : SqT K H a xs) : SqT K (upd H l u) a xs := by
  have ne : ∀ {w : HO}, H a = some w → (∀ us, w ≠ .dK us) → (∀ ob us, w ≠ .frz ob (.dK us)) → a ≠ l := fun {w} e n1 n2 z => by
    rw [z, hl] at e
    injection e with e
    rcases ho with ⟨us, rfl⟩ | ⟨ob, us, rfl⟩
    · exact n1 us e.symm
    · exact n2 ob us e.symm
  rcases h with (h | ⟨ob, h⟩) | h
  · exact .inl (.inl (by rw [upd_ne (ne h (fun _ z => by cases z) (fun _ _ z => by cases z))]; exact h))
  · exact .inl (.inr ⟨ob, by rw [upd_ne (ne h (fun _ z => by cases z) (fun _ _ z => by cases z))]; exact h⟩)
  · exact .inr h
theorem DocAt.wr {K : PySem.W.Frag} {H : Hp} {l : Addr} {o u : HO} (hl : H l = some o) (ho : IsDk o) {f : Fm} {v : V} (h : DocAt K H f v) : DocAt K (upd H l u) f v := by
  obtain ⟨a, dx, s, h1, h2, h3⟩ := h
  have ne : a ≠ l := fun z => by
    rw [z, hl] at h2
    injection h2 with h2
    rcases ho with ⟨us, rfl⟩ | ⟨ob, us, rfl⟩ <;> cases h2
  exact ⟨a, dx, s, h1, by rw [upd_ne ne]; exact h2, h3.mono (sqT_wr hl ho)⟩
theorem DocsAt.wr {K : PySem.W.Frag} {H : Hp} {l : Addr} {o u : HO} (hl : H l = some o) (ho : IsDk o) : ∀ {ws : List (Str × V)} {gs : Kp}, DocsAt K H ws gs → DocsAt K (upd H l u) ws gs
  | [], [], _ => trivial
  | (_, _) :: _, (_, _) :: _, ⟨h1, h2, h3⟩ => ⟨h1, h2.wr hl ho, DocsAt.wr hl ho h3⟩
/-- another dict is written: the desk stands -/
theorem DeskO.wr {K : PySem.W.Frag} {H0 H : Hp} {M : Kp} {c : Nat} {a pl d : Addr} {o u : HO} (D : DeskO K H M c a pl) (N : DkNew K H0 H a) (h0 : H0 d ≠ none) (hd : H d = some o) (ho : IsDk o) : DeskO K (upd H d u) M c a pl ∧ DkNew K H0 (upd H d u) a := by
  obtain ⟨dx, dk, ws, xs, h1, h2, h3, h4, h5⟩ := D.at_
  obtain ⟨dx', fs, dk', k1, k2, k3⟩ := N
  rw [h1] at k1
  injection k1 with k1
  injection k1 with _ k1 k4
  subst k1
  subst k4
  have ek : dk' = dk := by
    have : (some (V.ref dk') : Option V) = some (.ref dk) := k2.symm
    injection this with this
    injection this
  subst ek
  have na : a ≠ d := fun z => by
    rw [z, hd] at h1
    injection h1 with h1
    rcases ho with ⟨us, rfl⟩ | ⟨ob, us, rfl⟩ <;> cases h1
  have np : pl ≠ d := fun z => by
    rw [z, hd] at h4
    injection h4 with h4
    rcases ho with ⟨us, rfl⟩ | ⟨ob, us, rfl⟩ <;> cases h4
  have nk : dk' ≠ d := fun z => h0 (by rw [← z]; exact k3)
  refine ⟨⟨D.good, dx, dk', ws, xs, by rw [upd_ne na]; exact h1, by rw [upd_ne nk]; exact h2, h3.wr hd ho, by rw [upd_ne np]; exact h4, h5⟩, dx, _, dk', by rw [upd_ne na]; exact h1, rfl, k3⟩
theorem _root_.L2.Same.seqL {K : PySem.W.Frag} {H H' : Hp} {a : Addr} {xs : List V} (e : Same H H') (h : SqL K H a xs) : SqL K H' a xs := by
  rcases h with (h | ⟨o, h⟩) | h
  · exact .inl (.inl (e _ _ h))
  · exact .inl (.inr ⟨o, e _ _ h⟩)
  · exact .inr h
theorem _root_.L2.Same.lock {H H' : Hp} {d : Addr} {o : HO} (s : Same H H') : Same (upd H d o) (upd H' d o) := fun b u e => by
  by_cases hb : b = d
  · rw [hb, upd_same] at e ⊢
    exact e
  · rw [upd_ne hb] at e ⊢
    exact s _ _ e
theorem keys_take_not {M : Kp} (G : Good M) {i : Nat} {n : Str} {f : Fm} (h : M[i]? = some (n, f)) : n ∉ (M.take i).map (·.1) := by
  intro hc
  obtain ⟨j, hj, e⟩ := List.getElem_of_mem hc
  rw [List.length_map, List.length_take] at hj
  have hji : j < i := by omega
  rw [List.getElem_map, List.getElem_take] at e
  obtain ⟨hb, e2⟩ := List.getElem?_eq_some_iff.mp h
  have nd := G.nd
  unfold keys at nd
  have := (List.getElem_inj (h₀ := by simp; omega) (h₁ := by simpa using hb) nd (i := j) (j := i)).mp (by rw [List.getElem_map, List.getElem_map, e, e2])
  omega
theorem lookup_at {M : Kp} (G : Good M) {i : Nat} {n : Str} {f : Fm} (h : M[i]? = some (n, f)) : M.lookup n = some f := by
  have hm := List.mem_of_getElem? h
  obtain ⟨f2, hf2⟩ := lookup_some.mpr (List.mem_map.mpr ⟨_, hm, rfl⟩ : n ∈ keys M)
  have h1 := mem_of_get hf2
  obtain ⟨a, ha, e1⟩ := List.getElem_of_mem h1
  obtain ⟨hb, e2⟩ := List.getElem?_eq_some_iff.mp h
  have : a = i := by
    have nd := G.nd
    unfold keys at nd
    refine (List.getElem_inj (h₀ := by simpa using ha) (h₁ := by simpa using hb) nd).mp ?_
    rw [List.getElem_map, List.getElem_map, e1, e2]
  subst this
  rw [e1] at e2
  injection e2 with e2 e3
  rw [hf2, e3]
theorem asKeysV_inj {us ws : List (Str × V)} (h : asKeysV us = asKeysV ws) : us = ws := by
  have := congrArg (List.map fun kv : Key × V => ((match kv.1 with | .inr z => z | .inl _ => ""), kv.2)) h
  simpa [asKeysV, List.map_map, Function.comp_def] using this
theorem shaped_two {l : List Str} (h : ∀ x ∈ l, PyData.strOk x = true) : SeqAt.shaped (.list [.list (l.map .str), .list (l.map .str)]) = true := by
  unfold SeqAt.shaped
  rw [Bool.and_eq_true, decide_eq_true_eq]
  have h1 := depthAll_strs l
  refine ⟨by simp [PyData.canLay0, PyData.canLayAll0, canLayAll_strs h], ?_⟩
  simp only [PyData.depth, PyData.depthAll]
  omega
theorem ne_same {K : PySem.W.Frag} {H : Hp} {x y : V} {d : PyData} {Q : VK} (h1 : Dp K H x d) (h2 : Dp K H y d) (hs : SeqAt.shaped d = true) (q : Q (.bl false) H) : rNeD K x y H Q := by
  refine ⟨d, d, h1, h2, hs, hs, ?_⟩
  rw [eqv_of_shaped hs]
  exact q
theorem eq_same {K : PySem.W.Frag} {H : Hp} {x y : V} {d : PyData} {Q : VK} (h1 : Dp K H x d) (h2 : Dp K H y d) (hs : SeqAt.shaped d = true) (q : Q (.bl true) H) : rEqD K x y H Q := by
  refine ⟨d, d, h1, h2, hs, hs, ?_⟩
  rw [eqv_of_shaped hs]
  exact q
theorem dp_form {K : PySem.W.Frag} {H : Hp} {l : Addr} {r : V} {f : Fm} (h : H l = some (.lst [.str "form", r])) (m : FmAt K H f r) : Dp K H (.ref l) (.list [.str "form", f.data]) := .lst (sqL_of h) (.cons (.str _) (.cons m.dp .nil))
theorem dp_round {K : PySem.W.Frag} {H : Hp} {l q : Addr} {xs : List Str} (h : H l = some (.lst [.str "round", .ref q])) (m : H q = some (.tup (xs.map .str))) : Dp K H (.ref l) (.list [.str "round", .tuple (xs.map .str)]) := .lst (sqL_of h) (.cons (.str _) (.cons (.tup (sqT_of m) (dpAll_strs xs)) .nil))
/-- the odd things -/
def odds (t l q : Addr) : List V := [.str "none", .str "A", .non, .int 7, .ref t, .ref l, .bl true, .str "", .str "m\n", .ref q]
theorem odd_ok {K : PySem.W.Frag} {H : Hp} {M : Kp} {t l q : Addr} (hM : ∀ x ∈ keys M, x ∈ pool) (ht : H t = some (.tup [.str "a"])) (hl : H l = some (.lst [.str "a"])) (hq : H q = some (.dK [(.inr "m", .int 1)])) : ∀ x ∈ odds t l q, NameQ K H M x false ∧ ((∃ d, Dp K H x d ∧ SeqAt.shaped (.list [.str "missing", d]) = true) ∨ ∃ r, x = .ref r) := by
  have none_ : ("none" : Str) ∉ keys M := fun h => absurd (hM _ h) (by decide +kernel)
  intro x hx
  simp only [odds, List.mem_cons, List.not_mem_nil, or_false] at hx
  rcases hx with rfl | rfl | rfl | rfl | rfl | rfl | rfl | rfl | rfl | rfl
  · exact ⟨.inl ⟨_, rfl, by decide +kernel, by simp [none_]⟩, .inl ⟨_, .str _, by decide +kernel⟩⟩
  · exact ⟨.inl ⟨_, rfl, by decide +kernel, by rw [show nameOk "A" = false by decide +kernel] <;> rfl⟩, .inl ⟨_, .str _, by decide +kernel⟩⟩
  · exact ⟨.inr ⟨_, .base .non, rfl, rfl⟩, .inl ⟨_, .non, by decide +kernel⟩⟩
  · exact ⟨.inr ⟨_, .base (.int 7), rfl, rfl⟩, .inl ⟨_, .int 7, by decide +kernel⟩⟩
  · exact ⟨.inr ⟨_, .base (.tup ht), rfl, rfl⟩, .inr ⟨_, rfl⟩⟩
  · exact ⟨.inr ⟨_, .base (.lst hl), rfl, rfl⟩, .inr ⟨_, rfl⟩⟩
  · exact ⟨.inr ⟨_, .base (.bl true), rfl, rfl⟩, .inl ⟨_, .bl true, by decide +kernel⟩⟩
  · exact ⟨.inl ⟨_, rfl, by decide +kernel, by rw [show nameOk "" = false by decide +kernel] <;> rfl⟩, .inl ⟨_, .str _, by decide +kernel⟩⟩
  · exact ⟨.inl ⟨_, rfl, by decide +kernel, by rw [show nameOk "m\n" = false by decide +kernel] <;> rfl⟩, .inl ⟨_, .str _, by decide +kernel⟩⟩
  · exact ⟨.inr ⟨_, .base (.dK hq), rfl, rfl⟩, .inr ⟨_, rfl⟩⟩
/-- != of two lists [text, x] -/
def rNe2 (K : PySem.W.Frag) : R2 := fun x y H Q => rNeD K x y H Q ∨ rNeSame x y H Q
theorem ne2 {X : Cx} (K : PySem.W.Frag) (e : X.K = K) (hu : X.A.units + 64 < cLine) : OpR X (compareOp .NotEq) (rNe2 K) := by
  subst e
  intro pins s σ H x y v u Q I rx ry h
  rcases h with h | h
  · exact op_neD hu pins s σ H x y v u Q I rx ry h
  · exact op_neSame (by omega) pins s σ H x y v u Q I rx ry h
theorem ne_odd {K : PySem.W.Frag} {H : Hp} {l1 l2 : Addr} {x : V} {Q : VK} (h1 : H l1 = some (.lst [.str "missing", x])) (h2 : H l2 = some (.lst [.str "missing", x])) (ho : (∃ d, Dp K H x d ∧ SeqAt.shaped (.list [.str "missing", d]) = true) ∨ ∃ r, x = .ref r) (q : Q (.bl false) H) : rNe2 K (.ref l1) (.ref l2) H Q := by
  rcases ho with ⟨d, hd, hs⟩ | ⟨r, rfl⟩
  · exact .inl (ne_same (.lst (sqL_of h1) (.cons (.str _) (.cons hd .nil))) (.lst (sqL_of h2) (.cons (.str _) (.cons hd .nil))) hs q)
  · exact .inr ⟨l1, l2, r, "missing", rfl, rfl, h1, h2, q⟩
end Q41
set_option maxRecDepth 100000
set_option maxHeartbeats 4000000
/-! The chain of 26. -/
namespace Q41
open PySem PySem.Spec PyProof.Rows L2
def NS : List Str := ["az", "ay", "ax", "aw", "av", "au", "at", "as", "ar", "aq", "ap", "ao", "an", "am", "al", "ak", "aj", "ai", "ah", "ag", "af", "ae", "ad", "ac", "ab", "aa"]
def M26 : Kp := [("az", .txt "end"), ("ay", .joi (.txt "b") (.hol "az")), ("ax", .joi (.txt "b") (.hol "ay")), ("aw", .joi (.txt "b") (.hol "ax")), ("av", .joi (.txt "b") (.hol "aw")), ("au", .joi (.txt "b") (.hol "av")), ("at", .joi (.txt "b") (.hol "au")), ("as", .joi (.txt "b") (.hol "at")), ("ar", .joi (.txt "b") (.hol "as")), ("aq", .joi (.txt "b") (.hol "ar")), ("ap", .joi (.txt "b") (.hol "aq")), ("ao", .joi (.txt "b") (.hol "ap")), ("an", .joi (.txt "b") (.hol "ao")), ("am", .joi (.txt "b") (.hol "an")), ("al", .joi (.txt "b") (.hol "am")), ("ak", .joi (.txt "b") (.hol "al")), ("aj", .joi (.txt "b") (.hol "ak")), ("ai", .joi (.txt "b") (.hol "aj")), ("ah", .joi (.txt "b") (.hol "ai")), ("ag", .joi (.txt "b") (.hol "ah")), ("af", .joi (.txt "b") (.hol "ag")), ("ae", .joi (.txt "b") (.hol "af")), ("ad", .joi (.txt "b") (.hol "ae")), ("ac", .joi (.txt "b") (.hol "ad")), ("ab", .joi (.txt "b") (.hol "ac")), ("aa", .joi (.txt "b") (.hol "ab"))]
def M27 : Kp := putA M26 "az" (.hol "aa")
theorem circ26 : circ M26 "aa" = [] := circ_rank (fun x => NS.findIdx fun y => decide (y = x)) (by decide +kernel) _
theorem ord26 : ord M26 = NS := by decide +kernel
theorem ord27 : ord M27 = [] := by decide +kernel
theorem size26 : (lf M26 30 (.joi (.txt "b") (.hol "ab"))).size = 51 ∧ (lf M26 30 (.joi (.txt "b") (.hol "ab"))).holes = [] := by decide +kernel
theorem used27 : ∀ i : Fin 26, used M27 (NS.getD i.val "") = [NS.getD ((i.val + 25) % 26) ""] := by decide +kernel
theorem reach27 : ∀ (k i : Nat), i < 26 → Reach M27 (NS.getD i "") (NS.getD ((i + 25 * (k + 1)) % 26) "")
  | 0, i, hi => .one (by
      have := used27 ⟨i, hi⟩
      rw [this]
      simp)
  | k + 1, i, hi => by
    have h1 := reach27 k i hi
    have h2 := used27 ⟨(i + 25 * (k + 1)) % 26, Nat.mod_lt _ (by omega)⟩
    refine h1.snoc ?_
    rw [h2]
    have e : ((i + 25 * (k + 1)) % 26 + 25) % 26 = (i + 25 * (k + 1 + 1)) % 26 := by omega
    rw [e]
    simp
theorem all27 {i j : Nat} (hi : i < 26) (hj : j < 26) : Reach M27 (NS.getD i "") (NS.getD j "") := by
  have := reach27 (i + 26 - j + 25) i hi
  have e : (i + 25 * (i + 26 - j + 25 + 1)) % 26 = j := by omega
  rwa [e] at this
theorem keys27 : keys M27 = NS := by decide +kernel
theorem circ27 : circ M27 "am" = NS.reverse := by
  have h : nrm NS = circ M27 "am" := by
    refine circ_of fun x => ?_
    have at_ : ∀ {y : Str}, y ∈ NS → ∃ i, i < 26 ∧ NS.getD i "" = y := fun {y} hy => by
      obtain ⟨i, hi, e⟩ := List.getElem_of_mem hy
      exact ⟨i, hi, by rw [List.getD_eq_getElem?_getD, List.getElem?_eq_getElem hi, e] <;> rfl⟩
    obtain ⟨a, ha, ea⟩ := at_ (y := "am") (by decide +kernel)
    constructor
    · intro hx
      obtain ⟨i, hi, e⟩ := at_ hx
      subst e
      exact ⟨.inr (ledL_mem.mpr (ea ▸ all27 ha hi)), ledL_mem.mpr (all27 hi hi)⟩
    · rintro ⟨_, h⟩
      have := ledL_keys h
      rwa [keys27] at this
  rw [← h]
  decide +kernel
theorem M26_eq : M26 = ((("az" : Str), Fm.txt "end") : Str × Fm) :: (List.range 25).map (fun i => ((NS.getD (i + 1) "", Fm.joi (.txt "b") (.hol (NS.getD i ""))) : Str × Fm)) := rfl
theorem M26_at {i : Nat} (h : i < 25) : M26[i + 1]? = some (NS.getD (i + 1) "", .joi (.txt "b") (.hol (NS.getD i ""))) := by
  rw [M26_eq, List.getElem?_cons_succ, List.getElem?_map, List.getElem?_range h]
  rfl
theorem NS_ok : ∀ i : Fin 26, nameOk (NS.getD i.val "") = true := by decide +kernel
theorem good26 : Good M26 := ⟨by decide +kernel, by decide, by decide +kernel, by decide +kernel, by decide +kernel⟩
theorem put26 {i : Nat} (h : i < 25) : putA (M26.take (i + 1)) (NS.getD (i + 1) "") (.joi (.txt "b") (.hol (NS.getD i ""))) = M26.take (i + 1 + 1) := by
  rw [putA_new (keys_take_not good26 (M26_at h)), List.take_add_one (i := i + 1), M26_at h]
  rfl
theorem at_NS {i : Int} {k : Nat} (h : i = k) (hk : k < 26) : atI (NS.map V.str) i = some (.str (NS.getD k "")) := by
  subst h
  exact (by decide +kernel : ∀ j : Fin 26, atI (NS.map V.str) ((j.val : Nat) : Int) = some (.str (NS.getD j.val ""))) ⟨k, hk⟩
theorem look26 : M26.lookup ("aa" : Str) = some (Fm.joi (.txt "b") (.hol "ab")) := rfl
theorem shaped_NS : SeqAt.shaped (.list (NS.map .str)) = true := by decide +kernel
end Q41
set_option maxRecDepth 100000
set_option maxHeartbeats 4000000
/-! The law, 17: law. -/
namespace Q41
open PySem PySem.Spec PyProof.Rows L2

def aNm (v : V) : Option V := match v with
  | .str y => some (.str ("a" ++ y))
  | _ => none
section
variable {P : Program} {w : World} {K : PySem.W.Frag} {mg : Str → Option Value} {base : Heap} {f fA fM fD fR fN fS fI fF fP fL : Addr}
theorem sc_law : FnScope ["_law_script", "_law_at_here", "_law_purse_here", "_law_kept", "_law_desk", "_law_name", "_law_told", "_law_odd", "_law_names", "_law_k", "_law_turn", "_law_letter"] ["_law_script"] (defScope (top 49)) := mkScope
def spLaw (K : PySem.W.Frag) : Sp := fun vs H Q _ => ∃ (a : Addr) (ns : List Int), vs = [.ref a] ∧ SqL K H a (ns.map V.int) ∧ ∀ H', Q (.bl true) H'
/-- all that the law calls -/
structure LawTx (P : Program) (w : World) (K : PySem.W.Frag) (mg : Str → Option Value) (base : Heap) (fs : List Addr) : Prop where
  g_len : mg "len" = none
  g_min : mg "min" = none
  g_range : mg "range" = none
  g_tuple : mg "tuple" = none
  g_sorted : mg "sorted" = none
  h__law_purse : Has P w K mg base 2 "_law_purse" (fs.getD 0 0) ["_law_script", "_law_at_here"] (spPrs K)
  h__law_drawn : Has P w K mg base 8 "_law_drawn" (fs.getD 1 0) ["_law_purse_here"] (spLdrn K)
  h__law_is_small : Has P w K mg base 26 "_law_is_small" (fs.getD 2 0) ["_law_kept"] (spLsml K)
  h_Desk : HasC P w K mg base 1 "Desk" (KC K) (He.ma K (KC K) "__init__") ["self"] (spKInit K)
  m_put : HasM P w K mg base 3 (KC K) "put" (He.ma K (KC K) "put") ["self", "name", "doc"] (spPut K)
  h__law_doc : Has P w K mg base 7 "_law_doc" (fs.getD 3 0) ["_law_form_here"] (spLdoc K 4)
  h__law_caught : Has P w K mg base 41 "_law_caught" (fs.getD 4 0) ["_law_way", "_law_desk", "_law_name"] (spCau K)
  h__law_due : Has P w K mg base 25 "_law_due" (fs.getD 5 0) ["_law_kept", "_law_name"] (spLdue K)
  gf_order : GFnJ P w K mg base 6 (He.ma K (KC K) "order") (fdOf K (He.ma K (KC K) "order")) ["self"] (spOrder K)
  h__law_order : Has P w K mg base 7 "_law_order" (fs.getD 6 0) ["_law_kept"] (spLord K)
  p_names : HasP P w K mg base 1 (KC K) "names" (He.ma K (KC K) "names") (pA K (KC K) "names") ["self"] (spNames K)
  h__law_draw : Has P w K mg base 2 "_law_draw" (fs.getD 7 0) ["_law_purse_here", "_law_out_of"] spDrw
  h__law_fixed_right : Has P w K mg base 42 "_law_fixed_right" (fs.getD 8 0) [] spFix
  h_text : Has P w K mg base 3 "text" (fs.getD 9 0) ["string"] (spText K)
  h_hole : Has P w K mg base 3 "hole" (fs.getD 10 0) ["name"] (spHole K)
  h_require_doc : Has P w K mg base 1 "require_doc" (fs.getD 11 0) ["thing"] (spReq K)
  m_whole : HasM P w K mg base 40 (KC K) "whole" (He.ma K (KC K) "whole") ["self", "name"] (spWhole K)
  p_holes : HasP P w K mg base 3 (DC K) "holes" (He.ma K (DC K) "holes") (pA K (DC K) "holes") ["self"] (spHoles K)
  p_parts : HasP P w K mg base 3 (DC K) "parts" (He.ma K (DC K) "parts") (pA K (DC K) "parts") ["self"] (spParts K)
theorem has_law (T : TopDef K mg "law" (top 49) [] f) (Dc : DocTx K mg) (Dk : DeskTx K mg) {fs : List Addr} (L : LawTx P w K mg base fs) : Has P w K mg base 43 "law" f ["_law_script"] (spLaw K) := by
  obtain ⟨g_len, g_min, g_range, g_tuple, g_sorted, h__law_purse, h__law_drawn, h__law_is_small, h_Desk, m_put, h__law_doc, h__law_caught, h__law_due, gf_order, h__law_order, p_names, h__law_draw, h__law_fixed_right, h_text, h_hole, h_require_doc, m_whole, p_holes, p_parts⟩ := L
  refine mkHas T ?_ (T.d.bindsN fun _ _ _ _ _ _ us hl => match us, hl with | [_], _ => rfl)
  refine T.d.ok sc_law (fun vs H Q E ⟨_, _, e, _⟩ => by rw [e] <;> rfl) (fun cdv A outer s H vs Q E hr ⟨a, ns, ev, ha, hQ⟩ => ⟨_, PSs.nox (pss_cons (ps_for PassesOwn.never rfl (pi_range1 rfl g_range (pa_cons (pe_op op_add pe_int (pe_callB (call_min2 rfl) rfl g_min Boot.«min» (pa_cons pe_int (pa_cons (pe_callB (lenq K) rfl g_len Boot.«len» (pa_cons (pv 0) pa_nil)) pa_nil)))) pa_nil)) (pg_name sc_law.nd (i := 1) rfl (.inl rfl)) (pss_cons (ps_set (i := 2) sc_law.nd rfl (.inl rfl) (pe_hc h__law_purse (hr.mono (by omega)) rfl (pa_cons (pv 0) (pa_cons (pv 1) pa_nil)))) (pss_cons (ps_set (i := 3) sc_law.nd rfl (.inl rfl) (pe_hc h__law_drawn (hr.mono (by omega)) rfl (pa_cons (pv 2) pa_nil))) (pss_cons (ps_if (pt_not (pt_val (pe_hc h__law_is_small (hr.mono (by omega)) rfl (pa_cons (pv 3) pa_nil)))) (pss_one (ps_set (i := 3) sc_law.nd rfl (.inl rfl) (pe_disp (pps_cons pe_str (pe_tup (pa_cons pe_str (pa_cons pe_str pa_nil))) pps_nil) (by rfl) (by rfl) (by simp) (by simp)))) pss_nil) (pss_cons (ps_set (i := 4) sc_law.nd rfl (.inr rfl) (pe_hk0 h_Desk (hr.mono (by omega)) rfl)) (pss_cons (ps_lock (ps_for PassesOwn.never rfl (pi_keys (pv 3)) (pg_name sc_law.nd (i := 5) rfl (.inl rfl)) (pss_one (ps_expr (pe_hm m_put (hr.mono (by omega)) (pv 4) (pa_cons (pv 5) (pa_cons (pe_hc h__law_doc (hr.mono (by omega)) rfl (pa_cons (pe_dget (hu_of hr) (pv 3) (pv 5) (by intro _ _; rfl)) pa_nil)) pa_nil))))))) (pss_cons (ps_lock (ps_for PassesOwn.never rfl (pi_keys (pv 3)) (pg_name sc_law.nd (i := 5) rfl (.inl rfl)) (pss_cons (ps_if (pt_cmpR (neD K rfl (units64 hr)) (pe_hc h__law_caught (hr.mono (by omega)) rfl (pa_cons pe_int (pa_cons (pv 4) (pa_cons (pv 5) pa_nil)))) (pe_lst (pa_cons pe_str (pa_cons (pe_dget (hu_of hr) (pv 3) (pv 5) (by intro _ _; rfl)) pa_nil))) (nomark _)) (pss_one (ps_ret pe_bl)) pss_nil) (pss_one (ps_if (pt_cmpR (neD K rfl (units64 hr)) (pe_hc h__law_caught (hr.mono (by omega)) rfl (pa_cons pe_int (pa_cons (pv 4) (pa_cons (pv 5) pa_nil)))) (pe_hc h__law_due (hr.mono (by omega)) rfl (pa_cons (pv 3) (pa_cons (pv 5) pa_nil))) (nomark _)) (pss_one (ps_ret pe_bl)) pss_nil))))) (pss_cons (ps_setLc (i := 6) (own := [("_law_turn", 10)]) rfl sc_law.nd rfl rfl (sw_true rfl rfl rfl rfl) (pi_range1 rfl g_range (pa_cons pe_int pa_nil)) (mkBlk (N := ["_law_script", "_law_at_here", "_law_purse_here", "_law_kept", "_law_desk", "_law_name", "_law_told", "_law_odd", "_law_names", "_law_k", "_law_turn", "_law_letter"]) (sc := defScope (top 49))) (fun _ _ _ _ _ => pg_name sc_law.nd (i := 10) rfl (.inl rfl)) (fun _ _ _ _ _ => pts_nil) (fun _ _ _ _ _ => (pe_lcJ rfl (pgenJ_meth0 (pv 4) Dk.c Dk.m_order gf_order (hr.mono (by omega)) (bn_order Dk)) (hr.mono (by omega)) rfl rfl (by decide +kernel)))) (pss_cons (ps_if (PW.pt (pw_or (pt_cmpR (neD K rfl (units64 hr)) (pv 6) (pe_op op_rep (pe_lst (pa_cons (pe_hc h__law_order (hr.mono (by omega)) rfl (pa_cons (pv 3) pa_nil)) pa_nil)) pe_int) (nomark _)) (pw_or1 (pt_cmpR (neD K rfl (units64 hr)) (pe_hp p_names (hr.mono (by omega)) (pv 4)) (tupq K rfl g_tuple (pe_callB (call_sortedD rfl) rfl g_sorted Boot.«sorted» (pa_cons (pv 3) pa_nil))) (nomark _))))) (pss_one (ps_ret pe_bl)) pss_nil) (pss_cons (ps_set (i := 7) sc_law.nd rfl (.inl rfl) (pe_ix (ixL K) (pe_lst (pa_cons pe_str (pa_cons pe_str (pa_cons pe_non (pa_cons pe_int (pa_cons (pe_tup (pa_cons pe_str pa_nil)) (pa_cons (pe_lst (pa_cons pe_str pa_nil)) (pa_cons pe_bl (pa_cons pe_str (pa_cons pe_str (pa_cons (pe_disp (pps_cons pe_str pe_int pps_nil) (by rfl) (by rfl) (by simp) (by simp)) pa_nil))))))))))) (pe_hc h__law_draw (hr.mono (by omega)) rfl (pa_cons (pv 2) (pa_cons pe_int pa_nil))) (by intro _ _; rfl))) (pss_one (ps_if (PW.pt (pw_or (pt_cmpR (ne2 K rfl (units64 hr)) (pe_hc h__law_caught (hr.mono (by omega)) rfl (pa_cons pe_int (pa_cons (pv 4) (pa_cons (pv 7) pa_nil)))) (pe_lst (pa_cons pe_str (pa_cons (pv 7) pa_nil))) (nomark _)) (pw_or1 (pt_cmpR (ne2 K rfl (units64 hr)) (pe_hc h__law_caught (hr.mono (by omega)) rfl (pa_cons pe_int (pa_cons (pv 4) (pa_cons (pv 7) pa_nil)))) (pe_lst (pa_cons pe_str (pa_cons (pv 7) pa_nil))) (nomark _))))) (pss_one (ps_ret pe_bl)) pss_nil)))))))))))) (pss_cons (ps_if (pt_not (pt_val (pe_hc0 h__law_fixed_right (hr.mono (by omega)) rfl))) (pss_one (ps_ret pe_bl)) pss_nil) (pss_cons (ps_set (i := 4) sc_law.nd rfl (.inr rfl) (pe_hk0 h_Desk (hr.mono (by omega)) rfl)) (pss_cons (ps_setLc (i := 8) (own := [("_law_letter", 11)]) rfl sc_law.nd rfl rfl (sw_true rfl rfl rfl rfl) (pi_str pe_str) (mkBlk (N := ["_law_script", "_law_at_here", "_law_purse_here", "_law_kept", "_law_desk", "_law_name", "_law_told", "_law_odd", "_law_names", "_law_k", "_law_turn", "_law_letter"]) (sc := defScope (top 49))) (fun _ _ _ _ _ => pg_name sc_law.nd (i := 11) rfl (.inl rfl)) (fun _ _ _ _ _ => pts_nil) (fun _ _ _ _ _ => (pe_op op_add_str pe_str (pv 11)))) (pss_cons (ps_expr (pe_hm m_put (hr.mono (by omega)) (pv 4) (pa_cons (pe_ix (ixL K) (pv 8) pe_int (by intro _ _; rfl)) (pa_cons (pe_hc h_text (hr.mono (by omega)) rfl (pa_cons pe_str pa_nil)) pa_nil)))) (pss_cons (ps_for PassesOwn.never rfl (pi_range1 rfl g_range (pa_cons pe_int pa_nil)) (pg_name sc_law.nd (i := 9) rfl (.inl rfl)) (pss_one (ps_expr (pe_hm m_put (hr.mono (by omega)) (pv 4) (pa_cons (pe_ix (ixL K) (pv 8) (pe_op op_add (pv 9) pe_int) (by intro _ _; rfl)) (pa_cons (pe_op (op_own Dc.o_add (ok_add Dc h_require_doc) (hr.mono (by omega)) (bn_add Dc) passL) (pe_hc h_text (hr.mono (by omega)) rfl (pa_cons pe_str pa_nil)) (pe_hc h_hole (hr.mono (by omega)) rfl (pa_cons (pe_ix (ixL K) (pv 8) (pv 9) (by intro _ _; rfl)) pa_nil))) pa_nil)))))) (pss_cons (ps_set (i := 6) sc_law.nd rfl (.inl rfl) (pe_hm m_whole (hr.mono (by omega)) (pv 4) (pa_cons pe_str pa_nil))) (pss_cons (ps_if (PW.pt (pw_or (pt_cmpR (neD K rfl (units64 hr)) (pe_hp p_holes (hr.mono (by omega)) (pv 6)) (pe_tup pa_nil) (nomark _)) (pw_or (pt_cmpR op_ne (pe_hp p_parts (hr.mono (by omega)) (pv 6)) pe_int (nomark _)) (pw_or1 (pt_cmpR (neD K rfl (units64 hr)) (pe_lcJ rfl (pgenJ_meth0 (pv 4) Dk.c Dk.m_order gf_order (hr.mono (by omega)) (bn_order Dk)) (hr.mono (by omega)) rfl rfl (by decide +kernel)) (pv 8) (nomark _)))))) (pss_one (ps_ret pe_bl)) pss_nil) (pss_cons (ps_expr (pe_hm m_put (hr.mono (by omega)) (pv 4) (pa_cons pe_str (pa_cons (pe_hc h_hole (hr.mono (by omega)) rfl (pa_cons pe_str pa_nil)) pa_nil)))) (pss_one (ps_ret (pe_and (pe_cmpR (eqD K rfl (units64 hr)) (pe_hc h__law_caught (hr.mono (by omega)) rfl (pa_cons pe_int (pa_cons (pv 4) (pa_cons pe_str pa_nil)))) (pe_lst (pa_cons pe_str (pa_cons (tupq K rfl g_tuple (pe_revL (pv 8))) pa_nil))) (nomark _)) (pe_one (pe_cmpR (eqD K rfl (units64 hr)) (pe_lcJ rfl (pgenJ_meth0 (pv 4) Dk.c Dk.m_order gf_order (hr.mono (by omega)) (bn_order Dk)) (hr.mono (by omega)) rfl rfl (by decide +kernel)) (pe_lst pa_nil) (nomark _))))))))))))))), ?_⟩)
  subst ev
  refine ⟨_, rfl, a, _, rfl, .inl ha, _, _, rfl, _, _, rfl, rfl, _, rfl, ?_⟩
  have hT : ((1 : Int) + (if ((ns.map V.int).length : Int) < 8 then ((ns.map V.int).length : Int) else 8)).toNat ≤ 9 ∧ (1 : Int) + (if ((ns.map V.int).length : Int) < 8 then ((ns.map V.int).length : Int) else 8) < 2 ^ 62 ∧ -(2 ^ 62) ≤ (1 : Int) + (if ((ns.map V.int).length : Int) < 8 then ((ns.map V.int).length : Int) else 8) := by
    split <;> omega
  refine ⟨hT.2.2, hT.2.1, ?_⟩
  replace hT := hT.1
  generalize ((1 : Int) + (if ((ns.map V.int).length : Int) < 8 then ((ns.map V.int).length : Int) else 8)).toNat = T at hT ⊢
  refine for_range (fun i σ H' => ∃ o1 o2 o3 o4 o5 o6 o7 o8 o9 o10 o11 : Option V, σ = [some (.ref a), o1, o2, o3, o4, o5, o6, o7, o8, o9, o10, o11] ∧ Same H H') ⟨_, _, _, _, _, _, _, _, _, _, _, rfl, Same.refl _⟩ (fun i σ Hi hi ⟨o1, o2, o3, o4, o5, o6, o7, o8, o9, o10, o11, eσ, si⟩ => ?_) (fun σ Hi ⟨o1, o2, o3, o4, o5, o6, o7, o8, o9, o10, o11, eσ, si⟩ => ?_)
  · subst eσ
    refine ⟨_, rfl, _, rfl, a, ns, i, by rw [Int.zero_add] <;> rfl, Same.seqL si ha, by omega, fun p H1 s1 hp P1 => ?_⟩
    refine ⟨_, rfl, p, 1000 * i, rfl, P1, by omega, fun d M H2 x2 P2 hd0 k2 h5 hpool => ?_⟩
    have s2 : Same Hi H2 := x2.toSame s1 hp
    dsimp only [gName]
    refine tSeqIf_name fun C hC => ?_
    have rest : ∀ (d : Addr) (M : Kp) (H4 : Hp), Same Hi H4 → PurseAt H4 p (1000 * i + 1000) → KeptO K H4 M d → M.length ≤ 5 → (∀ x ∈ keys M, x ∈ pool) → C [some (.ref a), some (.int (0 + i)), some (.ref p), some (.ref d), o4, o5, o6, o7, o8, o9, o10, o11] H4 := by
      intro d M H4 s4 P4 k4 h5 hpool
      rw [hC]
      clear hC
      have G := k4.good
      refine desk_set fun aD pl H5 s5 ha5 hp5 d5 n5 => ?_
      obtain ⟨ws, hd4, hlk⟩ := k4.lock
      refine ⟨d, _, s5 _ _ hd4, True.intro, fun od => ?_⟩
      obtain ⟨l1, l2, l3⟩ := hlk od
      have un : ∀ {H'}, Same (upd H4 d (.frz od (.dK (asKeysV ws)))) H' → H' d = some (.frz od (.dK (asKeysV ws))) ∧ Same H4 (upd H' d (.dK (asKeysV ws))) := fun s => Same.unlock hd4 s
      have h4d : H4 d ≠ none := by rw [hd4]; exact fun e => nomatch e
      have sL : Same (upd H4 d (.frz od (.dK (asKeysV ws)))) (upd H5 d (.frz od (.dK (asKeysV ws)))) := s5.lock
      have hLd : (upd H4 d (.frz od (.dK (asKeysV ws)))) d ≠ none := by rw [upd_same]; exact fun e => nomatch e
      have n5L : DkNew K (upd H4 d (.frz od (.dK (asKeysV ws)))) H5 aD := by
        obtain ⟨dx, fs, dk, k1, k2, k3⟩ := n5
        exact ⟨dx, fs, dk, k1, k2, by rw [upd_ne (fun e => h4d (by rw [← e]; exact k3))]; exact k3⟩
      obtain ⟨dL, nL⟩ := d5.wr (u := .frz od (.dK (asKeysV ws))) n5L hLd (s5 _ _ hd4) (.inl ⟨_, rfl⟩)
      have naD : aD ≠ d := fun e => h4d (by rw [← e]; exact ha5)
      have npD : pl ≠ d := fun e => h4d (by rw [← e]; exact hp5)
      have aL : (upd H4 d (.frz od (.dK (asKeysV ws)))) aD = none := by rw [upd_ne naD]; exact ha5
      have pL : (upd H4 d (.frz od (.dK (asKeysV ws)))) pl = none := by rw [upd_ne npD]; exact hp5
      generalize (upd H5 d (.frz od (.dK (asKeysV ws)))) = H5L at sL dL nL ⊢
      generalize (upd H4 d (.frz od (.dK (asKeysV ws)))) = HL at l1 l2 l3 un sL aL pL hLd nL
      have ewl : (asKeysV ws).length = M.length := by
        have := congrArg List.length l2.keys
        rw [List.length_map, keys_len] at this
        simpa [asKeysV] using this
      refine ⟨_, rfl, d, od, rfl, .inl ⟨_, sL _ _ l1, ?_⟩⟩
      refine for_it walk_keys (fun j σ H' => ∃ o5 : Option V, σ = [some (.ref a), some (.int (0 + i)), some (.ref p), some (.ref d), some (.ref aD), o5, o6, o7, o8, o9, o10, o11] ∧ Same HL H' ∧ DeskO K H' (M.take j) j aD pl ∧ DkNew K HL H' aD) ⟨_, rfl, sL, dL, nL⟩ (fun j σ H' _ ⟨_, _, h, _⟩ => h _ _ l1) (fun j x σ H' H6 hj ⟨o5, eσ, s6, d6, n6⟩ y => ?_) (fun σ H6 ⟨o5, eσ, s6, d6, n6⟩ => ?_)
      · subst eσ
        obtain ⟨rfl, k, v, hkv, rfl⟩ := y
        unfold asKeysV at hkv
        rw [List.getElem?_map] at hkv
        cases hw : ws[j]? with
        | none => rw [hw] at hkv; cases hkv
        | some q =>
        rw [hw] at hkv
        cases hkv
        obtain ⟨n, v⟩ := q
        obtain ⟨f, hMj, _⟩ := l2.at_ hw
        have hMm := List.mem_of_getElem? hMj
        have hf := lookup_at G hMj
        obtain ⟨v2, hg, hv2⟩ := (l3.same s6).get hf
        obtain ⟨xq, yq, iq, zq⟩ := d6.ins
        have hok : f.ok = true := G.ok _ hMm
        have hdp : f.depth ≤ 3 := G.dp _ hMm
        have hjM : j < M.length := (List.getElem?_eq_some_iff.mp hMj).1
        refine ⟨_, rfl, aD, xq, yq, rfl, iq, zq _ (by decide) (by decide) (by decide), _, rfl, _, rfl, _, rfl, d, v2, rfl, hg, f, v2, rfl, hv2, hok, by omega, fun r H7 s7 m7 => ?_⟩
        refine ⟨aD, pl, M.take j, j, n, f, r, rfl, (d6.same s7).desk, by omega, G.name _ hMm, hok, hdp, by rw [List.length_take]; omega, m7, fun H8 B8 d8 n8 => ?_⟩
        have s8 := B8.same (s6.trans s7) aL pL
        rw [putA_new (keys_take_not G hMj)] at d8
        rw [show M.take j ++ [(n, f)] = M.take (j + 1) by rw [List.take_add_one, hMj] <;> rfl] at d8
        exact ⟨_, rfl, s8, d8, n8.old (s6.trans s7)⟩
      · subst eσ
        rw [ewl, List.take_length] at d6
        obtain ⟨w1, w2⟩ := un s6
        obtain ⟨d7, n7⟩ := d6.wr (u := .dK (asKeysV ws)) n6 hLd w1 (.inr ⟨_, _, rfl⟩)
        have hd7 : (upd H6 d (.dK (asKeysV ws))) d = some (.dK (asKeysV ws)) := upd_same
        have k7 := k4.same w2
        refine ⟨w1, ?_⟩
        generalize (upd H6 d (.dK (asKeysV ws))) = H7 at w2 d7 n7 hd7 k7 ⊢
        clear d6 n6 s6 w1 un sL dL nL l1 l2 l3 d5 n5 n5L s5
        refine ⟨d, _, hd7, True.intro, fun od2 => ?_⟩
        obtain ⟨ws2, hd8, hlk2⟩ := k7.lock
        rw [hd7] at hd8
        injection hd8 with hd8
        injection hd8 with hd8
        obtain ⟨l1, l2, l3⟩ := hlk2 od2
        rw [← hd8] at l1 l2 l3
        have un : ∀ {H'}, Same (upd H7 d (.frz od2 (.dK (asKeysV ws)))) H' → H' d = some (.frz od2 (.dK (asKeysV ws))) ∧ Same H7 (upd H' d (.dK (asKeysV ws))) := fun s => Same.unlock hd7 s
        obtain ⟨d8, _⟩ := d7.wr (u := .frz od2 (.dK (asKeysV ws))) n7 hLd hd7 (.inl ⟨_, rfl⟩)
        generalize (upd H7 d (.frz od2 (.dK (asKeysV ws)))) = H8 at l1 l2 l3 un d8 ⊢
        refine ⟨_, rfl, d, od2, rfl, .inl ⟨_, l1, ?_⟩⟩
        refine for_it walk_keys (fun j σ H' => ∃ o5 : Option V, σ = [some (.ref a), some (.int (0 + i)), some (.ref p), some (.ref d), some (.ref aD), o5, o6, o7, o8, o9, o10, o11] ∧ Same H8 H') ⟨_, rfl, Same.refl _⟩ (fun j σ H' _ ⟨_, _, h⟩ => h _ _ l1) (fun j x σ H' H9 hj ⟨o5, eσ, s9⟩ y => ?_) (fun σ H9 ⟨o5, eσ, s9⟩ => ?_)
        · subst eσ
          obtain ⟨rfl, k, v, hkv, rfl⟩ := y
          unfold asKeysV at hkv
          rw [List.getElem?_map] at hkv
          cases hw : ws[j]? with
          | none => rw [hw] at hkv; cases hkv
          | some q =>
          rw [hw] at hkv
          cases hkv
          obtain ⟨n, v⟩ := q
          obtain ⟨f, hMj, _⟩ := FormsAt.at_ (by obtain ⟨ws3, e3, f3⟩ := k7.at_; rw [hd7] at e3; injection e3 with e3; injection e3 with e3; rw [asKeysV_inj e3]; exact f3) hw
          have hMm := List.mem_of_getElem? hMj
          have hf := lookup_at G hMj
          have hok : f.ok = true := G.ok _ hMm
          have hdp : f.depth ≤ 3 := G.dp _ hMm
          have hnk : nameOk n = true := G.name _ hMm
          have hnm : n ∈ keys M := lookup_some.mp ⟨f, hf⟩
          have nq : ∀ {H'}, NameQ K H' M (.str n) true := fun {H'} => .inl ⟨n, rfl, by have := (nameOk_iff.mp hnk).2.1; omega, by rw [hnk, decide_eq_true hnm] <;> rfl⟩
          refine ⟨_, rfl, _, rfl, 1, aD, pl, M, M.length, .str n, true, rfl, .inr rfl, d8.same s9, nq, (fun h => nomatch h), fun _ n' f' en hf' => ⟨fun _ r1 v1 H10 s10 e10 m10 => ?_, fun h => absurd h (by decide), fun h => absurd h (by decide)⟩⟩
          cases en
          rw [hf] at hf'
          cases hf'
          obtain ⟨v2, hg, hv2⟩ := (l3.same (s9.trans s10)).get hf
          refine ⟨_, rfl, _, rfl, d, v2, rfl, hg, le_line (by simp), fun r2 hr2 => ?_⟩
          have s11 := Same.upd (o := .lst [.str "form", v2]) hr2
          refine ne_same (dp_form (s11 _ _ e10) (m10.same s11)) (dp_form upd_same (hv2.same s11)) (shaped_form hok (by omega)) ⟨_, rfl, ifF rfl ?_⟩
          have s911 := s9.trans (s10.trans s11)
          generalize (upd H10 r2 (.lst [.str "form", v2])) = H11 at s911
          clear s11 s10
          refine ⟨_, rfl, _, rfl, 0, aD, pl, M, M.length, .str n, true, rfl, .inl rfl, d8.same s911, nq, (fun h => nomatch h), fun _ n' f' en hf' => ⟨fun h => absurd h (by decide), fun _ hc r1 v1 H12 s12 e12 m12 => ?_, fun _ hc r1 q1 H12 s12 e12 t12 => ?_⟩⟩
          · cases en
            rw [hf] at hf'
            cases hf'
            have s912 := s911.trans s12
            refine ⟨_, rfl, _, rfl, d, n, M, f, rfl, l3.same s912, hf, h5, fun hc' => absurd hc hc', fun _ r2 v2 H13 s13 e13 m13 => ?_⟩
            obtain ⟨ok1, dp1⟩ := whole_small G h5 hf hc
            exact ne_same (dp_form (s13 _ _ e12) (m12.same s13)) (dp_form e13 m13) (shaped_form ok1 (by omega)) ⟨_, rfl, ifF rfl ⟨_, rfl, s912.trans s13⟩⟩
          · cases en
            rw [hf] at hf'
            cases hf'
            have s912 := s911.trans s12
            refine ⟨_, rfl, _, rfl, d, n, M, f, rfl, l3.same s912, hf, h5, fun _ r2 q2 H13 s13 e13 t13 => ?_, fun hc' => absurd hc' hc⟩
            have okc : ∀ y ∈ circ M n, PyData.strOk y = true := fun y hy => nameOk_str (G.names y (ledL_keys (circ_mem.mp hy).2))
            exact ne_same (dp_round (s13 _ _ e12) (s13 _ _ t12)) (dp_round e13 t13) (shaped_round okc) ⟨_, rfl, ifF rfl ⟨_, rfl, s912.trans s13⟩⟩
        · subst eσ
          obtain ⟨w1, w3⟩ := un s9
          refine ⟨w1, ?_⟩
          have w23 := w2.trans w3
          have d9 := d7.same w3
          have k9 := k7.same w3
          generalize (upd H9 d (.dK (asKeysV ws))) = H10 at w23 d9 k9 ⊢
          clear w1 w3 un l1 l2 l3 s9 d8 d7 n7 k7 hd7 hd8 hlk hlk2 w2
          obtain ⟨xq, yq, iq, zq⟩ := d9.ins
          obtain ⟨_, ol, _⟩ := ord_spec M
          have hkL := keys_len (M := M)
          have okO : ∀ x ∈ ord M, PyData.strOk x = true := fun x hx => nameOk_str (G.names x (ord_keys M x hx))
          refine ⟨2, rfl, by omega, by omega, fun D hD => ?_⟩
          refine lc_it (walk_range (lo := 0) (n := 2)) (fun j H' => Same H10 H' ∧ ∃ ls : List Addr, H' D = some (.lst (ls.map V.ref)) ∧ ls.length = j ∧ ∀ l ∈ ls, l ≠ D ∧ H' l = some (.lst ((ord M).map V.str))) ⟨Same.upd hD, [], upd_same, rfl, (fun _ h => nomatch h)⟩ (fun _ _ _ _ => trivial) (fun j x H' H11 hj ⟨s11, ls, eD, ll, hl⟩ y => ?_) (fun H11 ⟨s11, ls, eD, ll, hl⟩ => ?_)
          · obtain ⟨rfl, rfl⟩ := y
            refine ⟨rfl, (ord M).map V.str, by rw [List.length_map]; omega, _, rfl, aD, xq, yq, rfl, s11 _ _ iq, zq _ (by decide) (by decide) (by decide), aD, pl, M, M.length, rfl, (d9.same s11).desk, rfl, fun H12 s12 r hr => ?_⟩
            have s13 := s12.trans (Same.upd (o := .lst ((ord M).map V.str)) hr)
            have nr : r ≠ D := fun e => by rw [e, s12 _ _ eD] at hr; cases hr
            refine ⟨_, s13 _ _ eD, by rw [List.length_map, sizeLine_eq]; omega, (s11.trans s13).over hD, ls ++ [r], ?_, by rw [List.length_append, List.length_singleton, ll], fun l hl2 => ?_⟩
            · rw [upd_same]
              simp
            · rcases List.mem_append.mp hl2 with h | h
              · obtain ⟨h1, h2⟩ := hl l h
                exact ⟨h1, by rw [upd_ne h1]; exact s13 _ _ h2⟩
              · rw [List.mem_singleton.mp h]
                exact ⟨nr, by rw [upd_ne nr]; exact upd_same⟩
          match ls, ll, hl with
          | [x, y], _, hl =>
          have ex := (hl x (by simp)).2
          have ey := (hl y (by simp)).2
          refine ⟨_, rfl, _, rfl, d, M, rfl, (k9.same s11).kept, fun l H12 s12 hl12 e12 => ⟨le_line (by simp), fun b hb => ?_⟩⟩
          have s13 := Same.upd (o := .lst [.ref l]) hb
          refine ⟨b, 2, [.ref l], rfl, rfl, upd_same, by omega, by omega, by rw [sizeLine_eq]; exact (by decide : 1 * 2 ≤ 16777216), fun q hq => ?_⟩
          have s14 := (s12.trans s13).trans (Same.upd (o := .lst [.ref l, .ref l]) hq)
          have s24 := s13.trans (Same.upd (o := .lst [.ref l, .ref l]) hq)
          have eq : (upd (upd H12 b (.lst [.ref l])) q (.lst [.ref l, .ref l])) q = some (.lst [.ref l, .ref l]) := upd_same
          have hsh : SeqAt.shaped (.list [.list ((ord M).map .str), .list ((ord M).map .str)]) = true := shaped_two okO
          refine ne_same (d := .list [.list ((ord M).map .str), .list ((ord M).map .str)]) (.lst (sqL_of (s14 _ _ eD)) (.cons (.lst (sqL_of (s14 _ _ ex)) (dpAll_strs _)) (.cons (.lst (sqL_of (s14 _ _ ey)) (dpAll_strs _)) .nil))) (.lst (sqL_of eq) (.cons (.lst (sqL_of (s24 _ _ e12)) (dpAll_strs _)) (.cons (.lst (sqL_of (s24 _ _ e12)) (dpAll_strs _)) .nil))) hsh ⟨_, rfl, ifF rfl ?_⟩
          have s15 := s11.trans s14
          change Same H10 (upd (upd H12 b (.lst [.ref l])) q (.lst (List.replicate (Int.toNat 2) [V.ref l]).flatten)) at s15
          clear s14 s24 eq
          generalize (upd (upd H12 b (.lst [.ref l])) q (.lst (List.replicate (Int.toNat 2) [V.ref l]).flatten)) = H15 at s15 ⊢
          clear s13 ex ey eD s12 e12 hl s11
          refine ⟨_, rfl, aD, xq, yq, rfl, s15 _ _ iq, aD, pl, M, M.length, rfl, (d9.same s15).desk, fun q H16 s16 hq eq => ?_⟩
          have s1516 := s15.trans s16
          obtain ⟨ws16, hws, hfm⟩ := (k9.same s1516).kept.at_
          refine ⟨_, rfl, d, _, keys M, rfl, hws, by rw [asKeysV_keys, hfm.keys], by omega, fun ys r hp2 hs hr => .inl ⟨r, _, rfl, sqL_of upd_same, fun t ht => ?_⟩⟩
          have ey : ys = nrm (keys M) := perm_nrm hp2 hs G.nd
          subst ey
          have s17 := (Same.upd (o := .lst ((nrm (keys M)).map V.str)) hr).trans (Same.upd (o := .tup ((nrm (keys M)).map V.str)) ht)
          have okK : ∀ x ∈ nrm (keys M), PyData.strOk x = true := fun x hx => nameOk_str (G.names x (nrm_mem.mp hx))
          refine ne_same (.tup (sqT_of (s17 _ _ eq)) (dpAll_strs _)) (.tup (sqT_of upd_same) (dpAll_strs _)) (shapedT_strs okK) ⟨_, rfl, ifF rfl ?_⟩
          have s18 := s1516.trans s17
          generalize (upd (upd H16 r (.lst ((nrm (keys M)).map V.str))) t (.tup ((nrm (keys M)).map V.str))) = H18 at s18
          clear s17 s1516 s16 eq s15 hws hfm
          have P18 := (P4.same w23).same s18
          have npl : pl ≠ p := Ex.fresh P4 hp5
          have d18 := d9.same s18
          refine ⟨le_line (by simp), fun ot hot => ?_⟩
          have v1 := Same.upd (o := .tup [.str "a"]) hot
          have e1 : (upd H18 ot (.tup [.str "a"])) ot = some (.tup [.str "a"]) := upd_same
          generalize (upd H18 ot (.tup [.str "a"])) = H19 at v1 e1 ⊢
          refine ⟨le_line (by simp), fun ol hol => ?_⟩
          have v2 := Same.upd (o := .lst [.str "a"]) hol
          have e2 : (upd H19 ol (.lst [.str "a"])) ol = some (.lst [.str "a"]) := upd_same
          generalize (upd H19 ol (.lst [.str "a"])) = H20 at v2 e2 ⊢
          refine fun oq hoq => ?_
          refine ⟨upd_same, [(.inr "m", .int 1)], rfl, by simp, ?_⟩
          have v3 : Same H20 (upd (upd H20 oq (.dK [])) oq (.dK (mergeK [] [(.inr "m", .int 1)]))) := (Same.upd hoq).over hoq
          have e3 : (upd (upd H20 oq (.dK [])) oq (.dK (mergeK [] [(.inr "m", .int 1)]))) oq = some (.dK [(.inr "m", .int 1)]) := upd_same
          generalize (upd (upd H20 oq (.dK [])) oq (.dK (mergeK [] [(.inr "m", .int 1)]))) = H21 at v3 e3 ⊢
          refine ⟨le_line (by simp), fun L hL => ?_⟩
          have v4 := Same.upd (o := .lst (odds ot ol oq)) hL
          have e4 : (upd H21 L (.lst (odds ot ol oq))) L = some (.lst (odds ot ol oq)) := upd_same
          have vv := ((v1.trans v2).trans v3).trans v4
          have f1 := ((v2.trans v3).trans v4) _ _ e1
          have f2 := (v3.trans v4) _ _ e2
          have f3 := v4 _ _ e3
          change tCons _ _ _ (upd H21 L (.lst (odds ot ol oq))) _
          generalize (upd H21 L (.lst (odds ot ol oq))) = H22 at vv e4 f1 f2 f3 ⊢
          have P22 := P18.same vv
          refine ⟨_, rfl, p, _, 10, rfl, P22, by omega, by omega, by omega, fun r H23 x23 P23 lr => ?_⟩
          have nL : L ≠ p := fun e => by
            obtain ⟨_, _, _, z, _⟩ := P22
            rw [← e, e4] at z
            cases z
          have nt : ot ≠ p := fun e => by
            obtain ⟨_, _, _, z, _⟩ := P22
            rw [← e, f1] at z
            cases z
          have nl : ol ≠ p := fun e => by
            obtain ⟨_, _, _, z, _⟩ := P22
            rw [← e, f2] at z
            cases z
          have nqq : oq ≠ p := fun e => by
            obtain ⟨_, _, _, z, _⟩ := P22
            rw [← e, f3] at z
            cases z
          refine ⟨L, odds ot ol oq, r, (odds ot ol oq)[r]'lr, rfl, rfl, sqL_of (x23 _ _ nL e4), atI_nat lr, ?_⟩
          have hx : (odds ot ol oq)[r]'lr ∈ odds ot ol oq := List.getElem_mem lr
          generalize (odds ot ol oq)[r]'lr = x at hx ⊢
          have g1 := x23 _ _ nt f1
          have g2 := x23 _ _ nl f2
          have g3 := x23 _ _ nqq f3
          have d23 := (d18.same vv).ex x23 P22 npl
          have sH : Same Hi H23 := x23.toSame (((s4.trans w23).trans s18).trans vv) hp
          obtain ⟨nq0, _⟩ := odd_ok (K := K) hpool g1 g2 g3 x hx
          refine ⟨_, rfl, _, rfl, 0, aD, pl, M, M.length, x, false, rfl, .inl rfl, d23, nq0, fun _ l1 H24 s24 e24 => ?_, (fun h => nomatch h)⟩
          refine ⟨_, rfl, le_line (by simp), fun l2 hl2 => ?_⟩
          have s25 := s24.trans (Same.upd (o := .lst [.str "missing", x]) hl2)
          have e25 := (Same.upd (o := .lst [.str "missing", x]) hl2) _ _ e24
          have e26 : (upd H24 l2 (.lst [.str "missing", x])) l2 = some (.lst [.str "missing", x]) := upd_same
          generalize (upd H24 l2 (.lst [.str "missing", x])) = H25 at s25 e25 e26 ⊢
          obtain ⟨nq1, od1⟩ := odd_ok (K := K) hpool (s25 _ _ g1) (s25 _ _ g2) (s25 _ _ g3) x hx
          refine ne_odd e25 e26 od1 ⟨_, rfl, ifF rfl ?_⟩
          refine ⟨_, rfl, _, rfl, 1, aD, pl, M, M.length, x, false, rfl, .inr rfl, d23.same s25, nq1, fun _ l3 H26 s26 e27 => ?_, (fun h => nomatch h)⟩
          refine ⟨_, rfl, le_line (by simp), fun l4 hl4 => ?_⟩
          have s27 := s26.trans (Same.upd (o := .lst [.str "missing", x]) hl4)
          have e28 := (Same.upd (o := .lst [.str "missing", x]) hl4) _ _ e27
          have e29 : (upd H26 l4 (.lst [.str "missing", x])) l4 = some (.lst [.str "missing", x]) := upd_same
          generalize (upd H26 l4 (.lst [.str "missing", x])) = H27 at s27 e28 e29 ⊢
          obtain ⟨_, od2⟩ := odd_ok (K := K) hpool ((s25.trans s27) _ _ g1) ((s25.trans s27) _ _ g2) ((s25.trans s27) _ _ g3) x hx
          refine ne_odd e28 e29 od2 ⟨_, rfl, ifF rfl ?_⟩
          exact ⟨_, _, _, _, _, _, _, _, _, _, _, rfl, si.trans (sH.trans (s25.trans s27))⟩
    clear hC
    refine ⟨_, rfl, d, M, rfl, k2, h5, fun b H3 s3 => ⟨_, rfl, ?_⟩⟩
    cases b with
    | true =>
      refine ifF rfl ?_
      exact rest d M H3 (s2.trans s3) (P2.same s3) (k2.same s3) h5 hpool
    | false =>
      refine ifT rfl ?_
      intro q hq
      have n1 := Ex.fresh (P2.same s3) hq
      refine ⟨le_line (by simp), fun t ht => ?_⟩
      have ntq : t ≠ q := fun e => by rw [e, upd_same] at ht; cases ht
      have ht3 : H3 t = none := by rw [upd_ne ntq] at ht; exact ht
      refine ⟨by rw [upd_ne (Ne.symm ntq), upd_same], [(.inr "m", .ref t)], rfl, by simp, ?_⟩
      have sQ : Same H3 (upd (upd (upd H3 q (.dK [])) t (.tup [.str "hole", .str "x"])) q (.dK (mergeK [] [(.inr "m", .ref t)]))) := ((Same.upd hq).over ht3).over hq
      refine rest q [("m", .hol "x")] _ ((s2.trans s3).trans sQ) ((P2.same s3).same sQ) ⟨⟨by decide +kernel, by decide, by decide +kernel, by decide +kernel, by decide⟩, [("m", .ref t)], upd_same, rfl, ⟨t, rfl, sqT_of ?_⟩, trivial⟩ (by decide) (by decide +kernel)
      rw [upd_ne ntq, upd_same]
  · subst eσ
    refine ⟨rfl, fun H1 s1 => ⟨_, rfl, ifF rfl ?_⟩⟩
    clear si
    dsimp only [tNext]
    refine desk_set fun aD pl H2 s2 haD hpl d2 _ => ?_
    refine ⟨"zyxwvutsrqponmlkjihgfedcba", rfl, fun D hD => ?_⟩
    refine lc_same walk_str aNm signs_len (by decide) hD (fun _ _ => trivial) ystr (fun x hx H3 s3 Q3 q3 => ?_) fun H3 s3 e3 => ?_
    · obtain ⟨c, hc, rfl⟩ := List.mem_map.mp hx
      refine ⟨rfl, _, rfl, _, _, rfl, rfl, by rw [sizeLine_eq]; exact (by decide : 2 ≤ 16777216), ?_⟩
      exact q3 H3 (Same.refl _)
    · have eN : (signs "zyxwvutsrqponmlkjihgfedcba").filterMap aNm = NS.map V.str := by decide +kernel
      rw [eN] at e3
      have s23 := s2.trans s3
      have d3 := d2.same s3
      obtain ⟨x3, y3, i3, z3⟩ := d3.ins
      refine ⟨_, rfl, aD, x3, y3, rfl, i3, z3 _ (by decide) (by decide) (by decide), ?_⟩
      refine ⟨_, rfl, D, _, 0, .str "az", rfl, rfl, sqL_of e3, rfl, ?_⟩
      refine ⟨"end", rfl, by decide +kernel, fun r4 G4 t4 m4 => ?_⟩
      refine ⟨aD, pl, _, 0, "az", .txt "end", _, rfl, (d3.same t4).desk, by omega, by decide +kernel, by decide +kernel, by decide, by decide +kernel, m4, fun H4 B4 d4 _ => ?_⟩
      have s4 := B4.same (s23.trans t4) haD hpl
      have nD1 : D ≠ aD := fun e => by
        obtain ⟨_, _, i2, _⟩ := d2.ins
        rw [e, i2] at hD
        cases hD
      have nD2 : D ≠ pl := fun e => by
        obtain ⟨_, _, _, _, _, _, _, i2, _⟩ := d2.at_
        rw [e, i2] at hD
        cases hD
      have e4 := B4 _ _ nD1 nD2 (t4 _ _ e3)
      refine ⟨25, rfl, by omega, by omega, ?_⟩
      refine for_range (n := 25) (fun i σ H' => ∃ o9 : Option V, σ = [some (.ref a), o1, o2, o3, some (.ref aD), o5, o6, o7, some (.ref D), o9, o10, o11] ∧ Same H1 H' ∧ H' D = some (.lst (NS.map V.str)) ∧ DeskO K H' (M26.take (i + 1)) (i + 1) aD pl) ⟨_, rfl, s4, e4, d4⟩ (fun i σ H5 hi ⟨o9, eσ, s5, e5, d5⟩ => ?_) (fun σ H5 ⟨o9, eσ, s5, e5, d5⟩ => ?_)
      · subst eσ
        obtain ⟨x5, y5, i5, z5⟩ := d5.ins
        refine ⟨_, rfl, aD, x5, y5, rfl, i5, z5 _ (by decide) (by decide) (by decide), ?_⟩
        refine ⟨_, rfl, _, rfl, _, _, rfl, rfl, D, _, _, _, rfl, rfl, sqL_of e5, at_NS (k := i + 1) (by omega) (by omega), ?_⟩
        refine ⟨"b", rfl, by decide +kernel, fun r6 H6 t6 m6 => ?_⟩
        refine ⟨_, rfl, _, rfl, D, _, _, _, rfl, rfl, sqL_of (t6 _ _ e5), at_NS (k := i) (by omega) (by omega), ?_⟩
        refine ⟨_, rfl, NS_ok ⟨i, by omega⟩, fun r7 H7 t7 m7 => ?_⟩
        refine own_add (m6.same t7) m7 fun r8 H8 t8 m8 => ?_
        have u8 := (t6.trans t7).trans t8
        refine ⟨aD, pl, _, i + 1, NS.getD (i + 1) "", .joi (.txt "b") (.hol (NS.getD i "")), _, rfl, (d5.same u8).desk, by omega, NS_ok ⟨i + 1, by omega⟩, Bool.and_eq_true_iff.mpr ⟨by decide +kernel, NS_ok ⟨i, by omega⟩⟩, (by decide : (1 : Nat) ≤ 3), by rw [List.length_take]; omega, m8, fun H9 B9 d9 _ => ?_⟩
        rw [put26 (by omega)] at d9
        exact ⟨_, rfl, B9.same (s5.trans u8) haD hpl, B9 _ _ nD1 nD2 (u8 _ _ e5), d9⟩
      · subst eσ
        have d5 : DeskO K H5 M26 26 aD pl := d5
        obtain ⟨x5, y5, i5, z5⟩ := d5.ins
        refine ⟨_, rfl, aD, x5, y5, rfl, i5, z5 _ (by decide) (by decide) (by decide), aD, pl, M26, 26, .str "aa", true, rfl, d5, .inl ⟨"aa", rfl, by decide +kernel, by decide +kernel⟩, (fun h => nomatch h), fun _ n en => ⟨fun hc f r H6 hf t6 mr => ?_, fun hc => ?_⟩⟩
        rotate_left
        · cases en
          exact absurd circ26 hc
        cases en
        rw [look26] at hf
        cases hf
        obtain ⟨ra, rdx, rs, rfl, r1, r2⟩ := id mr
        refine ⟨_, rfl, ra, rdx, _, rfl, r1, _, _, rfl, mr, by rw [size26.1]; omega, fun q H7 t7 hq eq => ?_⟩
        rw [size26.2] at eq
        refine ⟨le_line (by simp), fun q2 hq2 => ?_⟩
        have t8 := Same.upd (o := .tup []) hq2
        refine ne_same (d := .tuple []) (.tup (sqT_of (t8 _ _ eq)) .nil) (.tup (sqT_of upd_same) .nil) (by decide +kernel) ⟨_, rfl, ifF rfl ?_⟩
        have t78 := t7.trans t8
        generalize (upd H7 q2 (.tup [])) = H8 at t78 ⊢
        refine ⟨_, rfl, ra, rdx, _, rfl, t78 _ _ r1, _, _, rfl, mr.same t78, by rw [size26.1]; omega, fun H9 t9 => ?_⟩
        rw [size26.1]
        refine ⟨rfl, _, rfl, ifF rfl ?_⟩
        have t59 := t6.trans (t78.trans t9)
        refine ⟨(ord M26).map .str, by rw [ord26]; decide +kernel, _, rfl, aD, x5, y5, rfl, t59 _ _ i5, z5 _ (by decide) (by decide) (by decide), aD, pl, M26, 26, rfl, (d5.same t59).desk, rfl, fun H10 t10 l10 hl10 => ?_⟩
        rw [ord26]
        have t11 := t59.trans (t10.trans (Same.upd (o := .lst (NS.map V.str)) hl10))
        refine ⟨_, rfl, ?_⟩
        refine ne_same (d := .list (NS.map .str)) (.lst (sqL_of upd_same) (dpAll_strs _)) (.lst (sqL_of (t11 _ _ e5)) (dpAll_strs _)) shaped_NS ⟨_, rfl, ifF rfl ?_⟩
        generalize (upd H10 l10 (.lst (NS.map V.str))) = H11 at t11 ⊢
        have d11 := d5.same t11
        refine ⟨_, rfl, aD, x5, y5, rfl, t11 _ _ i5, z5 _ (by decide) (by decide) (by decide), ?_⟩
        refine ⟨"aa", rfl, by decide +kernel, fun r12 H12 t12 m12 => ?_⟩
        refine ⟨aD, pl, M26, 26, "az", .hol "aa", _, rfl, (d11.same t12).desk, by omega, by decide +kernel, by decide +kernel, by decide, by decide, m12, fun H13 B13 d13 _ => ?_⟩
        have d13 : DeskO K H13 M27 27 aD pl := d13
        have e13 := B13 _ _ nD1 nD2 ((t11.trans t12) _ _ e5)
        have s13 := B13.same (s5.trans (t11.trans t12)) haD hpl
        obtain ⟨x13, y13, i13, z13⟩ := d13.ins
        refine ⟨_, rfl, 0, aD, pl, M27, 27, .str "am", true, rfl, .inl rfl, d13, .inl ⟨"am", rfl, by decide +kernel, by decide +kernel⟩, (fun h => nomatch h), fun _ n f en hf => ⟨fun h => absurd h (by decide), fun _ hc => ?_, fun _ hc l14 q14 H14 t14 e14 f14 => ?_⟩⟩
        · cases en
          rw [circ27] at hc
          exact absurd hc (by decide +kernel)
        cases en
        rw [circ27] at f14
        have er : (NS.map V.str).reverse = NS.reverse.map V.str := List.map_reverse.symm
        refine ⟨_, rfl, D, _, rfl, sqL_of (t14 _ _ e13), fun q15 hq15 => .inl ⟨q15, _, rfl, sqL_of upd_same, fun q16 hq16 => ?_⟩⟩
        rw [er] at hq16 ⊢
        have v1 := Same.upd (o := .lst (NS.reverse.map V.str)) hq15
        have v2 := v1.trans (Same.upd (o := .tup (NS.reverse.map V.str)) hq16)
        have g16 : (upd (upd H14 q15 (.lst (NS.reverse.map V.str))) q16 (.tup (NS.reverse.map V.str))) q16 = some (.tup (NS.reverse.map V.str)) := upd_same
        generalize (upd (upd H14 q15 (.lst (NS.reverse.map V.str))) q16 (.tup (NS.reverse.map V.str))) = H16 at v2 g16 ⊢
        refine ⟨le_line (by simp), fun l17 hl17 => ?_⟩
        have v3 := Same.upd (o := .lst [.str "round", .ref q16]) hl17
        have g17 : (upd H16 l17 (.lst [.str "round", .ref q16])) l17 = some (.lst [.str "round", .ref q16]) := upd_same
        generalize (upd H16 l17 (.lst [.str "round", .ref q16])) = H17 at v3 g17 ⊢
        have v4 := v2.trans v3
        have okN : ∀ y ∈ NS.reverse, PyData.strOk y = true := by decide +kernel
        refine eq_same (dp_round (v4 _ _ e14) (v4 _ _ f14)) (dp_round g17 (v3 _ _ g16)) (shaped_round okN) ⟨_, rfl, ifT rfl ?_⟩
        have t17 := t14.trans v4
        refine ⟨(ord M27).map .str, by rw [ord27]; decide +kernel, _, rfl, aD, x13, y13, rfl, t17 _ _ i13, z13 _ (by decide) (by decide) (by decide), aD, pl, M27, 27, rfl, (d13.same t17).desk, rfl, fun H18 t18 l18 hl18 => ?_⟩
        rw [ord27]
        have g18 : (upd H18 l18 (.lst (([] : List Str).map V.str))) l18 = some (.lst []) := upd_same
        generalize (upd H18 l18 (.lst (([] : List Str).map V.str))) = H19 at g18 ⊢
        refine ⟨le_line (by simp), fun l19 hl19 => ?_⟩
        exact eq_same (d := .list []) (.lst (sqL_of ((Same.upd (o := .lst []) hl19) _ _ g18)) .nil) (.lst (sqL_of upd_same) .nil) (by decide +kernel) (hQ _)
end
end Q41
set_option maxRecDepth 100000
set_option maxHeartbeats 4000000
/-! The head's own facts: defs by any path, own Bools. -/
namespace Q41
open PySem PySem.Spec PyProof.Rows L2
/-- one def: where it stands, its name and full name, its statement, its defaults -/
structure DefQ where
  at_ : PySem.W.Frag → Addr
  name : Str
  qual : Str
  st : Stmt
  dfl : List V := []
def rawQ (K : PySem.W.Frag) (a : Addr) : He.FnW := match K.lookup a with
  | some ⟨_, _, .func u, _⟩ => some (u.name, u.qualname, u.params, u.body, u.scope, u.globals, u.closure, u.builtins)
  | _ => none
def DefQ.want (d : DefQ) : He.FnW := some (d.name, d.qual, defArgs d.st, .stmts (defBody d.st), defScope d.st, mainGlobals, [], builtinsNs)
def DefQ.fit (K : PySem.W.Frag) (d : DefQ) : Bool := PySem.W.keepIn K (.ref (d.at_ K)) && (match K.lookup (d.at_ K) with
  | some ⟨_, _, .func u, _⟩ => PySem.W.codeIn K u.code d.qual && He.dflB K u.defaults d.dfl
  | _ => false)
theorem DefQ.def_ {K : PySem.W.Frag} {d : DefQ} (e : rawQ K (d.at_ K) = d.want) (c : d.fit K = true) : DefAt K d.name d.qual d.st d.dfl (d.at_ K) := by
  suffices h : ∃ u, FunD K d.name d.qual (defArgs d.st) (defBody d.st) (defScope d.st) d.dfl [] (d.at_ K) u by
    obtain ⟨u, F⟩ := h
    have e := fdOf_eq F
    subst e
    exact F
  obtain ⟨kp, c⟩ := He.ba c
  unfold rawQ at e
  cases q : K.lookup (d.at_ K) with
  | none => rw [q] at c; cases c
  | some o =>
    obtain ⟨oc, od, dt, sl⟩ := o
    rw [q] at c e
    cases dt with
    | func u =>
      obtain ⟨n1, n2, n3, n4, n5, n6, n7, n8, n9, n10, n11, n12, n13, n14, n15⟩ := u
      have e : (some (n1, n2, n3, n4, n5, n6, n7, n15) : He.FnW) = some (d.name, d.qual, defArgs d.st, .stmts (defBody d.st), defScope d.st, mainGlobals, [], builtinsNs) := e
      simp only [Option.some.injEq, Prod.mk.injEq] at e
      obtain ⟨rfl, rfl, rfl, rfl, rfl, rfl, rfl, rfl⟩ := e
      obtain ⟨c1, c2⟩ := He.ba (show (PySem.W.codeIn K n13 d.qual && He.dflB K n8 d.dfl) = true from c)
      exact ⟨_, ⟨oc, od, n8, n9, n10, n11, n12, n13, n14, sl, rfl, q, c1, He.dflB_ok c2, .inl rfl⟩, kp⟩
    | _ => cases c
/-! ### Bools -/
def foundB (K : PySem.W.Frag) (C : Addr) (m : Str) : Bool := He.eqO (PySem.W.findIn K (.ref C) m) (some (some (.ref (He.ma K C m))))
theorem foundB_ok {K : PySem.W.Frag} {C : Addr} {m : Str} (h : foundB K C m = true) : PySem.W.findIn K (.ref C) m = some (some (.ref (He.ma K C m))) := He.eqO_ok h
def propB (K : PySem.W.Frag) (C : Addr) (m : Str) : Bool := foundB K C m && (He.eqO (PySem.W.specialIn K (.ref (He.ma K C m)) "__get__") (some (some (.builtin "property.__get__"))) && (decide (PySem.W.takesIn K (.ref (He.ma K C m)) = some true) && (match PySem.W.recIn K (He.ma K C m) "property" with
  | some (.ref _ :: _) => true
  | _ => false)))
theorem propB_ok {K : PySem.W.Frag} {C : Addr} {m : Str} (h : propB K C m = true) : PropOf K C m (He.ma K C m) (pA K C m) := by
  obtain ⟨h1, h⟩ := He.ba h
  obtain ⟨h2, h⟩ := He.ba h
  obtain ⟨h3, h4⟩ := He.ba h
  refine ⟨foundB_ok h1, He.eqO_ok h2, of_decide_eq_true h3, ?_⟩
  unfold pA
  split at h4
  · rename_i g r e
    exact ⟨r, by rw [e]⟩
  · cases h4
def opB (K : PySem.W.Frag) (C : Addr) (m : Str) : Bool := PySem.W.selfFirst K C && (foundB K C m && PySem.W.isFn K (.ref (He.ma K C m)))
theorem opB_ok {K : PySem.W.Frag} {C : Addr} {m : Str} (h : opB K C m = true) : OpOf K C (He.ma K C m) m := by
  obtain ⟨h1, h⟩ := He.ba h
  obtain ⟨h2, h3⟩ := He.ba h
  exact ⟨h1, foundB_ok h2, h3⟩
def getB (K : PySem.W.Frag) (C : Addr) (m : Str) : Bool := foundB K C m && (PySem.W.fnIn K (He.ma K C m) && PySem.W.isFn K (.ref (He.ma K C m)))
theorem getB_ok {K : PySem.W.Frag} {C : Addr} {m : Str} (h : getB K C m = true) : GetOf K C (He.ma K C m) m := by
  obtain ⟨h1, h⟩ := He.ba h
  obtain ⟨h2, h3⟩ := He.ba h
  exact ⟨foundB_ok h1, h2, h3⟩
/-- what isinstance asks of a class -/
def isiB (K : PySem.W.Frag) (C : Addr) : Bool := He.eqO (PySem.W.findIn K (.ref C) "__class__") (some (some (.builtin "object.__class__"))) && (He.eqO (PySem.W.specialIn K (.builtin "object.__class__") "__get__") (some (some (.builtin "getset_descriptor.__get__"))) && (decide (PySem.W.takesIn K (.builtin "object.__class__") = some true) && decide (PySem.W.mroIn K C (.type "object") = some true)))
theorem isiB_ok {K : PySem.W.Frag} {C : Addr} (h : isiB K C = true) : PySem.W.findIn K (.ref C) "__class__" = some (some (.builtin "object.__class__")) ∧ PySem.W.specialIn K (.builtin "object.__class__") "__get__" = some (some (.builtin "getset_descriptor.__get__")) ∧ PySem.W.takesIn K (.builtin "object.__class__") = some true ∧ PySem.W.mroIn K C (.type "object") = some true := by
  obtain ⟨h1, h⟩ := He.ba h
  obtain ⟨h2, h⟩ := He.ba h
  obtain ⟨h3, h4⟩ := He.ba h
  exact ⟨He.eqO_ok h1, He.eqO_ok h2, of_decide_eq_true h3, of_decide_eq_true h4⟩
def kitB (K : PySem.W.Frag) (C D : Addr) (b : Bool) : Bool := decide (PySem.W.kitOne K (.ref C) (.ref D) = some b)
theorem kitB_ok {K : PySem.W.Frag} {C D : Addr} {b : Bool} (h : kitB K C D b = true) : PySem.W.kitOne K (.ref C) (.ref D) = some b := of_decide_eq_true h
def excB (K : PySem.W.Frag) (C : Addr) : Bool := xfB K C && isiB K C
theorem excB_ok {K : PySem.W.Frag} {C : Addr} (h : excB K C = true) : ExcC K C := by
  obtain ⟨h1, h2⟩ := He.ba h
  obtain ⟨a1, a2, a3, a4⟩ := xfB_ok h1
  obtain ⟨b1, b2, b3, b4⟩ := isiB_ok h2
  exact ⟨a1, a2, a3, a4, b1, b2, b3, b4⟩
def oexB (K : PySem.W.Frag) (C : Addr) : Bool := (match K.lookup C with
  | some ⟨.type t, _, .cls u, sl⟩ => decide (t = "type") && (u.hasDict && (!u.hasDel && ((match u.mro with
    | .ref c :: bm => decide (c = C) && PySem.HandSPX.refsVE bm
    | _ => false) && (match sl with
    | ⟨[_, _, _, _, some (.builtin i), _]⟩ => decide (i = "ValueError.__new__")
    | _ => false))))
  | _ => false) && (He.eqO (PySem.W.findIn K (.ref C) "__setattr__") (some (some (.builtin "object.__setattr__"))) && (decide (PySem.W.subIn K (.ref C) (.type "BaseException") = some true) && (decide (PySem.W.typeIn K (.ref C) = some (.type "type")) && PySem.W.keepIn K (.ref C))))
theorem oexB_ok {K : PySem.W.Frag} {C : Addr} (h : oexB K C = true) : OexC K C := by
  obtain ⟨h1, h⟩ := He.ba h
  obtain ⟨h2, h⟩ := He.ba h
  obtain ⟨h3, h⟩ := He.ba h
  obtain ⟨h4, h5⟩ := He.ba h
  refine ⟨?_, He.eqO_ok h2, of_decide_eq_true h3, of_decide_eq_true h4, h5⟩
  split at h1
  · rename_i t dd u sl q
    obtain ⟨a1, w1⟩ := He.ba h1
    obtain ⟨a2, w2⟩ := He.ba w1
    obtain ⟨a3, w3⟩ := He.ba w2
    obtain ⟨a4, a5⟩ := He.ba w3
    clear h1 w1 w2 w3
    have z4 := of_decide_eq_true a1
    subst z4
    obtain ⟨u1, u2, u3, u4, u5, u6, u7, u8, u9, u10, u11⟩ := u
    dsimp only at a2 a3 a4
    subst a2
    have z3 : u11 = false := by simpa using a3
    subst z3
    split at a4
    · rename_i c bm
      obtain ⟨b1, b2⟩ := He.ba a4
      have z1 := of_decide_eq_true b1
      subst z1
      split at a5
      · rename_i k0 k1 k2 k3 i k5
        have z5 := of_decide_eq_true a5
        subst z5
        exact ⟨_, _, _, _, bm, _, _, _, _, _, k0, k1, k2, k3, k5, q, b2⟩
      · cases a5
    · cases a4
  · cases h1
def initB (K : PySem.W.Frag) (C : Addr) : Bool := foundB K C "__init__" && decide (PySem.W.typeIn K (.ref (He.ma K C "__init__")) = some (.type "function"))
/-! ### the Hook -/
abbrev AlQ : Type := Bool × List He.FnW
def lookQ (fa : List He.Fa) (fn : List DefQ) (ex : List (PySem.W.Frag → Bool)) (K : PySem.W.Frag) : AlQ := ((fa.all fun f => f.ok K) && ((fn.all fun d => d.fit K) && ex.all fun b => b K), fn.map fun d => rawQ K (d.at_ K))
def wantQ (fn : List DefQ) : AlQ := (true, fn.map DefQ.want)
def SaysQ (fa : List He.Fa) (fn : List DefQ) (ex : List (PySem.W.Frag → Bool)) (K : PySem.W.Frag) : Prop := lookQ fa fn ex K = wantQ fn
def lookG (as : List Addr) (fa : List He.Fa) (fn : List DefQ) (ex : List (PySem.W.Frag → Bool)) (g : Addr → Option Obj) : AlQ := lookQ fa fn ex (He.frG g as)
def hookQ (as : List Addr) (fa : List He.Fa) (fn : List DefQ) (ex : List (PySem.W.Frag → Bool)) : PySem.W.Hook where
  α := AlQ
  obs := fun s => lookG as fa fn ex s.heap.get?
  val := fun _ => wantQ fn
  says := fun _ h => ∃ K : PySem.W.Frag, K.In h ∧ SaysQ fa fn ex K
  of := fun _ _ e => ⟨_, He.frG_in, e⟩
  keeps := fun _ _ _ ⟨K, hK, c⟩ k => ⟨K, PySem.W.Frag.In.keeps hK k, c⟩
theorem lookG_eq {as : List Addr} {fa : List He.Fa} {fn : List DefQ} {ex : List (PySem.W.Frag → Bool)} {g : Addr → Option Obj} {s : Shared} (h : ∀ a, g a = s.heap.get? a) : lookG as fa fn ex g = (hookQ as fa fn ex).obs s := by
  have e : g = s.heap.get? := funext h
  rw [e] <;> rfl
section
variable {fa : List He.Fa} {fn : List DefQ} {ex : List (PySem.W.Frag → Bool)} {K : PySem.W.Frag}
theorem SaysQ.bools (c : SaysQ fa fn ex K) : ((fa.all fun f => f.ok K) && ((fn.all fun d => d.fit K) && ex.all fun b => b K)) = true := congrArg (fun z : AlQ => z.1) c
theorem SaysQ.fact (c : SaysQ fa fn ex K) (i : Nat) {f : He.Fa} (h : fa[i]? = some f) : f.ok K = true := List.all_eq_true.mp (He.ba c.bools).1 f (List.mem_of_getElem? h)
theorem SaysQ.own (c : SaysQ fa fn ex K) (i : Nat) {b : PySem.W.Frag → Bool} (h : ex[i]? = some b) : b K = true := List.all_eq_true.mp (He.ba (He.ba c.bools).2).2 b (List.mem_of_getElem? h)
theorem SaysQ.def_ (c : SaysQ fa fn ex K) (i : Nat) {d : DefQ} (h : fn[i]? = some d) : DefAt K d.name d.qual d.st d.dfl (d.at_ K) := by
  have e : fn.map (fun d => rawQ K (d.at_ K)) = fn.map DefQ.want := congrArg (fun z : AlQ => z.2) c
  have e2 : (fn.map fun d => rawQ K (d.at_ K))[i]? = (fn.map DefQ.want)[i]? := by rw [e]
  rw [List.getElem?_map, List.getElem?_map, h] at e2
  exact DefQ.def_ (Option.some.inj e2) (List.all_eq_true.mp (He.ba (He.ba c.bools).2).1 d (List.mem_of_getElem? h))
end
/-- the law's end; what a def may let out hangs on the world -/
theorem walk_ofW {l : PySem.W.OpenLaw} {n k : Nat} {q : Program} {loose : List Str} {XP : (Str → Option Value) → Heap → Prop} {YP : World → Heap → Prop} {d : DefRec} {x : Str} (hn : l.most = some n) (hn2 : n ≤ sizeLine) (hdf : d.params.defaults = []) (hr : Room k callerA)
    (F : ∀ (w : World) (mg : Str → Option Value) (f : Addr) (h : Heap), YP w h → h.Ns mainGlobals mg → mg d.name = some (.ref f) → ∃ (K : PySem.W.Frag) (fd : FuncData) (sp : Sp), K.In h ∧ (∀ (s : Shared) (u : Value), BindsTo s fd ⟨[u], []⟩ [(x, u)]) ∧
        (∀ (H : Hp) (a : Addr) (ns : List Int), SqL K H a (ns.map V.int) → sp [.ref a] H (fun v _ => v = .bl true) fun _ _ _ => False) ∧ ∀ base : Heap, K.In base → base.Ns mainGlobals mg → FnOk l.prog w K mg base (L2.CX l.prog w) k f fd [x] sp) :
    PySem.W.WalkO q loose XP YP l.row.toRowW d [] (fun f vs => PySem.call f vs) := by
  refine Att.attach_call hn hdf fun w s₀ s₁ mg mb f o pm cd doc a vs ns G Y ho hd hcd hmg hobj hints hlen hg => ?_
  obtain ⟨K, fd, sp, KX, hb, hsp, hF⟩ := F w mg f _ Y G.T.g hmg
  exact law_call KX G.T.g G.T.b G.T.builtins G.T.nolimit hg hobj hints (Nat.le_trans hlen hn2) hr hF hb (fun H hO hS => hsp H a ns hS) fun H e s' ⟨_, _, _, _, _, _, _, _, _, _, _, _, h⟩ => h
end Q41
set_option maxRecDepth 100000
set_option maxHeartbeats 4000000
/-! The facts of the head. -/
namespace Q41
open PySem PySem.Spec PyProof.Rows L2
def fa41 : List He.Fa := [.free "len",
  .free "min",
  .free "max",
  .free "range",
  .free "tuple",
  .free "sorted",
  .free "isinstance",
  .free "all",
  .free "str",
  .free "int",
  .free "bool",
  .free "dict",
  .free "list",
  .free "set",
  .free "sum",
  .cls "Doc",
  .noat "Doc" "shape",
  .glo "Doc",
  .mkr "Doc",
  .meth "Doc" "nested",
  .meth "Doc" "group",
  .meth "Doc" "flattened",
  .cls "Desk",
  .noat "Desk" "kept",
  .noat "Desk" "wide",
  .noat "Desk" "past",
  .glo "Desk",
  .mkr "Desk",
  .meth "Desk" "remember",
  .meth "Desk" "put",
  .meth "Desk" "require",
  .meth "Desk" "used",
  .meth "Desk" "led",
  .meth "Desk" "whole",
  .meth "Desk" "filled_in",
  .meth "Desk" "order",
  .glo "NoSuchName",
  .noat "NoSuchName" "name",
  .glo "Circular",
  .noat "Circular" "ring",
  .glo "LayoutError",
  .exm "NoSuchName" "LayoutError" true,
  .exm "Circular" "LayoutError" true,
  .glo "is_string",
  .glo "is_integer",
  .str "LETTERS" letters,
  .int "MOST_LETTERS" 8,
  .int "MOST_STEPS" 40,
  .glo "is_name",
  .glo "inner_forms",
  .glo "all_forms",
  .glo "filled_form",
  .glo "require_doc",
  .glo "text",
  .glo "line",
  .glo "hole",
  .glo "filled",
  .glo "after_put",
  .glo "_law_at",
  .glo "_law_mixed",
  .glo "_law_purse",
  .glo "_law_draw",
  .glo "_law_leaf",
  .glo "_law_form",
  .glo "_law_doc",
  .glo "_law_names_in",
  .glo "_law_used",
  .glo "_law_led",
  .glo "_law_filled",
  .glo "_law_order",
  .glo "_law_caught",
  .glo "_law_parts",
  .glo "_law_due",
  .glo "_law_is_asked",
  .glo "_law_is_small",
  .glo "_law_drawn",
  .glo "_law_fixed_right",
  .glo "law"]
def fn41 : List DefQ := [⟨fun K => He.ma K (DC K) "__init__", "__init__", "Doc.__init__", mem 20 0, []⟩,
  ⟨fun K => pA K (DC K) "form", "form", "Doc.form", mem 20 1, []⟩,
  ⟨fun K => pA K (DC K) "parts", "parts", "Doc.parts", mem 20 2, []⟩,
  ⟨fun K => pA K (DC K) "holes", "holes", "Doc.holes", mem 20 3, []⟩,
  ⟨fun K => He.ma K (DC K) "__add__", "__add__", "Doc.__add__", mem 20 6, []⟩,
  ⟨fun K => He.ma K (DC K) "__or__", "__or__", "Doc.__or__", mem 20 7, []⟩,
  ⟨fun K => He.ma K (DC K) "nested", "nested", "Doc.nested", mem 20 9, []⟩,
  ⟨fun K => He.ma K (DC K) "group", "group", "Doc.group", mem 20 10, []⟩,
  ⟨fun K => He.ma K (DC K) "flattened", "flattened", "Doc.flattened", mem 20 11, []⟩,
  ⟨fun K => He.ma K (KC K) "__init__", "__init__", "Desk.__init__", mem 27 0, []⟩,
  ⟨fun K => pA K (KC K) "names", "names", "Desk.names", mem 27 3, []⟩,
  ⟨fun K => He.ma K (KC K) "__getitem__", "__getitem__", "Desk.__getitem__", mem 27 11, []⟩,
  ⟨fun K => He.ma K (KC K) "remember", "remember", "Desk.remember", mem 27 4, []⟩,
  ⟨fun K => He.ma K (KC K) "put", "put", "Desk.put", mem 27 5, []⟩,
  ⟨fun K => He.ma K (KC K) "require", "require", "Desk.require", mem 27 14, []⟩,
  ⟨fun K => He.ma K (KC K) "used", "used", "Desk.used", mem 27 15, []⟩,
  ⟨fun K => He.ma K (KC K) "led", "led", "Desk.led", mem 27 16, []⟩,
  ⟨fun K => He.ma K (KC K) "whole", "whole", "Desk.whole", mem 27 17, []⟩,
  ⟨fun K => He.ma K (KC K) "filled_in", "filled_in", "Desk.filled_in", mem 27 18, []⟩,
  ⟨fun K => He.ma K (KC K) "order", "order", "Desk.order", mem 27 19, []⟩,
  ⟨fun K => He.ma K (DC K) "__eq__", "__eq__", "Doc.__eq__", mem 20 8, []⟩,
  ⟨fun K => He.ma K (He.ga K "NoSuchName") "__init__", "__init__", "NoSuchName" ++ ".__init__", mem 7 0, [.non]⟩,
  ⟨fun K => He.ma K (He.ga K "Circular") "__init__", "__init__", "Circular" ++ ".__init__", mem 8 0, [.non]⟩,
  ⟨fun K => He.ga K "is_string", "is_string", "is_string", top 14, []⟩,
  ⟨fun K => He.ga K "is_integer", "is_integer", "is_integer", top 15, [.non, .non]⟩,
  ⟨fun K => He.ga K "is_name", "is_name", "is_name", top 16, []⟩,
  ⟨fun K => He.ga K "inner_forms", "inner_forms", "inner_forms", top 17, []⟩,
  ⟨fun K => He.ga K "all_forms", "all_forms", "all_forms", top 18, []⟩,
  ⟨fun K => He.ga K "filled_form", "filled_form", "filled_form", top 19, []⟩,
  ⟨fun K => He.ga K "require_doc", "require_doc", "require_doc", top 21, []⟩,
  ⟨fun K => He.ga K "text", "text", "text", top 22, [.str ""]⟩,
  ⟨fun K => He.ga K "line", "line", "line", top 23, [.str " "]⟩,
  ⟨fun K => He.ga K "hole", "hole", "hole", top 24, []⟩,
  ⟨fun K => He.ga K "filled", "filled", "filled", top 25, []⟩,
  ⟨fun K => He.ga K "after_put", "after_put", "after_put", top 28, []⟩,
  ⟨fun K => He.ga K "_law_at", "_law_at", "_law_at", top 30, []⟩,
  ⟨fun K => He.ga K "_law_mixed", "_law_mixed", "_law_mixed", top 31, []⟩,
  ⟨fun K => He.ga K "_law_purse", "_law_purse", "_law_purse", top 32, []⟩,
  ⟨fun K => He.ga K "_law_draw", "_law_draw", "_law_draw", top 33, []⟩,
  ⟨fun K => He.ga K "_law_leaf", "_law_leaf", "_law_leaf", top 34, []⟩,
  ⟨fun K => He.ga K "_law_form", "_law_form", "_law_form", top 35, []⟩,
  ⟨fun K => He.ga K "_law_doc", "_law_doc", "_law_doc", top 36, []⟩,
  ⟨fun K => He.ga K "_law_names_in", "_law_names_in", "_law_names_in", top 37, []⟩,
  ⟨fun K => He.ga K "_law_used", "_law_used", "_law_used", top 38, []⟩,
  ⟨fun K => He.ga K "_law_led", "_law_led", "_law_led", top 39, []⟩,
  ⟨fun K => He.ga K "_law_filled", "_law_filled", "_law_filled", top 40, []⟩,
  ⟨fun K => He.ga K "_law_order", "_law_order", "_law_order", top 41, []⟩,
  ⟨fun K => He.ga K "_law_caught", "_law_caught", "_law_caught", top 42, []⟩,
  ⟨fun K => He.ga K "_law_parts", "_law_parts", "_law_parts", top 43, []⟩,
  ⟨fun K => He.ga K "_law_due", "_law_due", "_law_due", top 44, []⟩,
  ⟨fun K => He.ga K "_law_is_asked", "_law_is_asked", "_law_is_asked", top 45, []⟩,
  ⟨fun K => He.ga K "_law_is_small", "_law_is_small", "_law_is_small", top 46, []⟩,
  ⟨fun K => He.ga K "_law_drawn", "_law_drawn", "_law_drawn", top 47, []⟩,
  ⟨fun K => He.ga K "_law_fixed_right", "_law_fixed_right", "_law_fixed_right", top 48, []⟩,
  ⟨fun K => He.ga K "law", "law", "law", top 49, []⟩]
def ex41 : List (PySem.W.Frag → Bool) := [fun K => isiB K (DC K),
  fun K => propB K (DC K) "form",
  fun K => propB K (DC K) "parts",
  fun K => propB K (DC K) "holes",
  fun K => opB K (DC K) "__add__",
  fun K => opB K (DC K) "__or__",
  fun K => kitB K (DC K) (DC K) true,
  fun K => propB K (KC K) "names",
  fun K => getB K (KC K) "__getitem__",
  fun K => getB K (DC K) "__eq__",
  fun K => PySem.W.notFirst K (DC K) (.ref (DC K)),
  fun K => initB K (He.ga K "NoSuchName"),
  fun K => oexB K (He.ga K "NoSuchName"),
  fun K => initB K (He.ga K "Circular"),
  fun K => oexB K (He.ga K "Circular"),
  fun K => xfB K (NC K),
  fun K => xfB K (CC K),
  fun K => excB K (NC K),
  fun K => excB K (CC K),
  fun K => kitB K (NC K) (NC K) true,
  fun K => kitB K (CC K) (NC K) false,
  fun K => kitB K (CC K) (CC K) true]
end Q41
set_option maxRecDepth 100000
set_option maxHeartbeats 4000000
/-! The join. -/
namespace Q41
open PySem PySem.Spec PyProof.Rows L2
section
variable {P : Program} {w : World} {K : PySem.W.Frag} {mg : Str → Option Value} {base : Heap}
theorem has_isint {f : Addr} (T : TopDef K mg "is_integer" (top 15) [.non, .non] f) (g_isinstance : mg "isinstance" = none) (g_int : mg "int" = none) (g_bool : mg "bool" = none) : Has P w K mg base 1 "is_integer" f ["thing", "least", "most"] spIsInteger := by
  refine mkHas T (ok_is_integer T.d g_isinstance g_int g_bool) ?_
  obtain ⟨ds, vd, b⟩ := T.d.binds1 (ps := ["thing", "least", "most"]) 3 2 (by simp) rfl fun _ _ _ _ _ _ _ us its h1 h2 => match us, its, h1, h2 with | [_, _, _], [_, _], _, _ => ⟨_, rfl, rfl⟩
  cases vd
  exact b
theorem law_of {h : Heap} (X : K.In h) (G : h.Ns mainGlobals mg) (c : SaysQ fa41 fn41 ex41 K) : DefAt K "law" "law" (top 49) [] (He.ga K "law") ∧ mg "law" = some (.ref (He.ga K "law")) ∧ Has P w K mg base 43 "law" (He.ga K "law") ["_law_script"] (spLaw K) := by
  have g_len := He.free_ok (x := "len") X G (c.fact 0 (f := .free "len") rfl)
  have g_min := He.free_ok (x := "min") X G (c.fact 1 (f := .free "min") rfl)
  have g_max := He.free_ok (x := "max") X G (c.fact 2 (f := .free "max") rfl)
  have g_range := He.free_ok (x := "range") X G (c.fact 3 (f := .free "range") rfl)
  have g_tuple := He.free_ok (x := "tuple") X G (c.fact 4 (f := .free "tuple") rfl)
  have g_sorted := He.free_ok (x := "sorted") X G (c.fact 5 (f := .free "sorted") rfl)
  have g_isinstance := He.free_ok (x := "isinstance") X G (c.fact 6 (f := .free "isinstance") rfl)
  have g_all := He.free_ok (x := "all") X G (c.fact 7 (f := .free "all") rfl)
  have g_str := He.free_ok (x := "str") X G (c.fact 8 (f := .free "str") rfl)
  have g_int := He.free_ok (x := "int") X G (c.fact 9 (f := .free "int") rfl)
  have g_bool := He.free_ok (x := "bool") X G (c.fact 10 (f := .free "bool") rfl)
  have g_dict := He.free_ok (x := "dict") X G (c.fact 11 (f := .free "dict") rfl)
  have g_list := He.free_ok (x := "list") X G (c.fact 12 (f := .free "list") rfl)
  have g_set := He.free_ok (x := "set") X G (c.fact 13 (f := .free "set") rfl)
  have g_sum := He.free_ok (x := "sum") X G (c.fact 14 (f := .free "sum") rfl)
  obtain ⟨b1, b2, b3, b4⟩ := isiB_ok (C := DC K) (c.own 0 (b := fun K => isiB K (DC K)) rfl)
  have Dc : DocTx K mg := { c := He.cls_ok (c.fact 15 (f := .cls "Doc") rfl), sh := He.noat_ok (c.fact 16 (f := .noat "Doc" "shape") rfl), g := (He.glo_ok X G (c.fact 17 (f := .glo "Doc") rfl)), made := He.mkr_ok (c.fact 18 (f := .mkr "Doc") rfl), d_init := (c.def_ 0 (d := ⟨fun K => He.ma K (DC K) "__init__", "__init__", "Doc.__init__", mem 20 0, []⟩) rfl), p_form := (propB_ok (c.own 1 (b := fun K => propB K (DC K) "form") rfl)), d_form := (c.def_ 1 (d := ⟨fun K => pA K (DC K) "form", "form", "Doc.form", mem 20 1, []⟩) rfl), p_parts := (propB_ok (c.own 2 (b := fun K => propB K (DC K) "parts") rfl)), d_parts := (c.def_ 2 (d := ⟨fun K => pA K (DC K) "parts", "parts", "Doc.parts", mem 20 2, []⟩) rfl), p_holes := (propB_ok (c.own 3 (b := fun K => propB K (DC K) "holes") rfl)), d_holes := (c.def_ 3 (d := ⟨fun K => pA K (DC K) "holes", "holes", "Doc.holes", mem 20 3, []⟩) rfl), o_add := opB_ok (c.own 4 (b := fun K => opB K (DC K) "__add__") rfl), d_add := (c.def_ 4 (d := ⟨fun K => He.ma K (DC K) "__add__", "__add__", "Doc.__add__", mem 20 6, []⟩) rfl), o_or := opB_ok (c.own 5 (b := fun K => opB K (DC K) "__or__") rfl), d_or := (c.def_ 5 (d := ⟨fun K => He.ma K (DC K) "__or__", "__or__", "Doc.__or__", mem 20 7, []⟩) rfl), m_nested := (He.meth_ok (c.fact 19 (f := .meth "Doc" "nested") rfl)), d_nested := (c.def_ 6 (d := ⟨fun K => He.ma K (DC K) "nested", "nested", "Doc.nested", mem 20 9, []⟩) rfl), m_group := (He.meth_ok (c.fact 20 (f := .meth "Doc" "group") rfl)), d_group := (c.def_ 7 (d := ⟨fun K => He.ma K (DC K) "group", "group", "Doc.group", mem 20 10, []⟩) rfl), m_flat := (He.meth_ok (c.fact 21 (f := .meth "Doc" "flattened") rfl)), d_flat := (c.def_ 8 (d := ⟨fun K => He.ma K (DC K) "flattened", "flattened", "Doc.flattened", mem 20 11, []⟩) rfl), o_class := b1, o_get := b2, o_take := b3, o_mro := b4, o_isi := kitB_ok (c.own 6 (b := fun K => kitB K (DC K) (DC K) true) rfl) }
  have Dk : DeskTx K mg := { c := He.cls_ok (c.fact 22 (f := .cls "Desk") rfl), n_kept := He.noat_ok (c.fact 23 (f := .noat "Desk" "kept") rfl), n_wide := He.noat_ok (c.fact 24 (f := .noat "Desk" "wide") rfl), n_past := He.noat_ok (c.fact 25 (f := .noat "Desk" "past") rfl), g := (He.glo_ok X G (c.fact 26 (f := .glo "Desk") rfl)), made := He.mkr_ok (c.fact 27 (f := .mkr "Desk") rfl), d_init := (c.def_ 9 (d := ⟨fun K => He.ma K (KC K) "__init__", "__init__", "Desk.__init__", mem 27 0, []⟩) rfl), p_names := (propB_ok (c.own 7 (b := fun K => propB K (KC K) "names") rfl)), d_names := (c.def_ 10 (d := ⟨fun K => pA K (KC K) "names", "names", "Desk.names", mem 27 3, []⟩) rfl), o_get := getB_ok (c.own 8 (b := fun K => getB K (KC K) "__getitem__") rfl), d_get := (c.def_ 11 (d := ⟨fun K => He.ma K (KC K) "__getitem__", "__getitem__", "Desk.__getitem__", mem 27 11, []⟩) rfl), m_remember := (He.meth_ok (c.fact 28 (f := .meth "Desk" "remember") rfl)), d_remember := (c.def_ 12 (d := ⟨fun K => He.ma K (KC K) "remember", "remember", "Desk.remember", mem 27 4, []⟩) rfl), m_put := (He.meth_ok (c.fact 29 (f := .meth "Desk" "put") rfl)), d_put := (c.def_ 13 (d := ⟨fun K => He.ma K (KC K) "put", "put", "Desk.put", mem 27 5, []⟩) rfl), m_require := (He.meth_ok (c.fact 30 (f := .meth "Desk" "require") rfl)), d_require := (c.def_ 14 (d := ⟨fun K => He.ma K (KC K) "require", "require", "Desk.require", mem 27 14, []⟩) rfl), m_used := (He.meth_ok (c.fact 31 (f := .meth "Desk" "used") rfl)), d_used := (c.def_ 15 (d := ⟨fun K => He.ma K (KC K) "used", "used", "Desk.used", mem 27 15, []⟩) rfl), m_led := (He.meth_ok (c.fact 32 (f := .meth "Desk" "led") rfl)), d_led := (c.def_ 16 (d := ⟨fun K => He.ma K (KC K) "led", "led", "Desk.led", mem 27 16, []⟩) rfl), m_whole := (He.meth_ok (c.fact 33 (f := .meth "Desk" "whole") rfl)), d_whole := (c.def_ 17 (d := ⟨fun K => He.ma K (KC K) "whole", "whole", "Desk.whole", mem 27 17, []⟩) rfl), m_filled_in := (He.meth_ok (c.fact 34 (f := .meth "Desk" "filled_in") rfl)), d_filled_in := (c.def_ 18 (d := ⟨fun K => He.ma K (KC K) "filled_in", "filled_in", "Desk.filled_in", mem 27 18, []⟩) rfl), m_order := (He.meth_ok (c.fact 35 (f := .meth "Desk" "order") rfl)), d_order := (c.def_ 19 (d := ⟨fun K => He.ma K (KC K) "order", "order", "Desk.order", mem 27 19, []⟩) rfl) }
  have Z : DocEq K := { o_eq := getB_ok (c.own 9 (b := fun K => getB K (DC K) "__eq__") rfl), d_eq := (c.def_ 20 (d := ⟨fun K => He.ma K (DC K) "__eq__", "__eq__", "Doc.__eq__", mem 20 8, []⟩) rfl), first := c.own 10 (b := fun K => PySem.W.notFirst K (DC K) (.ref (DC K))) rfl }
  obtain ⟨iNoSuchName, jNoSuchName⟩ := He.ba (c.own 11 (b := fun K => initB K (He.ga K "NoSuchName")) rfl)
  have NNoSuchName : ErrTx K mg "NoSuchName" "name" (mem 7 0) := { g := (He.glo_ok X G (c.fact 36 (f := .glo "NoSuchName") rfl)), T := oexB_ok (c.own 12 (b := fun K => oexB K (He.ga K "NoSuchName")) rfl), iC := foundB_ok iNoSuchName, tI := of_decide_eq_true jNoSuchName, nf := He.noat_ok (c.fact 37 (f := .noat "NoSuchName" "name") rfl), d := (c.def_ 21 (d := ⟨fun K => He.ma K (He.ga K "NoSuchName") "__init__", "__init__", "NoSuchName" ++ ".__init__", mem 7 0, [.non]⟩) rfl) }
  obtain ⟨iCircular, jCircular⟩ := He.ba (c.own 13 (b := fun K => initB K (He.ga K "Circular")) rfl)
  have NCircular : ErrTx K mg "Circular" "ring" (mem 8 0) := { g := (He.glo_ok X G (c.fact 38 (f := .glo "Circular") rfl)), T := oexB_ok (c.own 14 (b := fun K => oexB K (He.ga K "Circular")) rfl), iC := foundB_ok iCircular, tI := of_decide_eq_true jCircular, nf := He.noat_ok (c.fact 39 (f := .noat "Circular" "ring") rfl), d := (c.def_ 22 (d := ⟨fun K => He.ma K (He.ga K "Circular") "__init__", "__init__", "Circular" ++ ".__init__", mem 8 0, [.non]⟩) rfl) }
  have Y : ErrY K mg := { g := (He.glo_ok X G (c.fact 40 (f := .glo "LayoutError") rfl)), exN := He.exm_ok (c.fact 41 (f := .exm "NoSuchName" "LayoutError" true) rfl), exC := He.exm_ok (c.fact 42 (f := .exm "Circular" "LayoutError" true) rfl), xN := xfB_ok (c.own 15 (b := fun K => xfB K (NC K)) rfl), xC := xfB_ok (c.own 16 (b := fun K => xfB K (CC K)) rfl), cN := excB_ok (c.own 17 (b := fun K => excB K (NC K)) rfl), cC := excB_ok (c.own 18 (b := fun K => excB K (CC K)) rfl), k1 := kitB_ok (c.own 19 (b := fun K => kitB K (NC K) (NC K) true) rfl), k2 := kitB_ok (c.own 20 (b := fun K => kitB K (CC K) (NC K) false) rfl), k3 := kitB_ok (c.own 21 (b := fun K => kitB K (CC K) (CC K) true) rfl) }
  have T := (⟨(He.glo_ok X G (c.fact 43 (f := .glo "is_string") rfl)), c.def_ 23 (d := ⟨fun K => He.ga K "is_string", "is_string", "is_string", top 14, []⟩) rfl⟩ : TopDef K mg "is_string" (top 14) [] (He.ga K "is_string"))
  have h_is_string := mkHas T (ok_is_string (P := P) (w := w) (base := base) (CX := L2.CX P w) T.d g_isinstance g_all g_str) (T.d.bindsN fun _ _ _ _ _ _ us hl => match us, hl with | [_], _ => rfl)
  have h_is_integer := has_isint (P := P) (w := w) (base := base) (⟨(He.glo_ok X G (c.fact 44 (f := .glo "is_integer") rfl)), c.def_ 24 (d := ⟨fun K => He.ga K "is_integer", "is_integer", "is_integer", top 15, [.non, .non]⟩) rfl⟩ : TopDef K mg "is_integer" (top 15) [.non, .non] (He.ga K "is_integer")) g_isinstance g_int g_bool
  have gl := He.str_ok (x := "LETTERS") (z := letters) X G (c.fact 45 (f := .str "LETTERS" letters) rfl)
  have gm := He.int_ok (x := "MOST_LETTERS") (i := 8) X G (c.fact 46 (f := .int "MOST_LETTERS" 8) rfl)
  have gs := He.int_ok (x := "MOST_STEPS") (i := 40) X G (c.fact 47 (f := .int "MOST_STEPS" 40) rfl)
  have T := (⟨(He.glo_ok X G (c.fact 48 (f := .glo "is_name") rfl)), c.def_ 25 (d := ⟨fun K => He.ga K "is_name", "is_name", "is_name", top 16, []⟩) rfl⟩ : TopDef K mg "is_name" (top 16) [] (He.ga K "is_name"))
  have h_is_name := mkHas T (ok_is_name (P := P) (w := w) (base := base) T.d g_isinstance g_all g_str g_len gl gm) (T.d.bindsN fun _ _ _ _ _ _ us hl => match us, hl with | [_], _ => rfl)
  have h_inner_forms := has_inner (P := P) (w := w) (base := base) (⟨(He.glo_ok X G (c.fact 49 (f := .glo "inner_forms") rfl)), c.def_ 26 (d := ⟨fun K => He.ga K "inner_forms", "inner_forms", "inner_forms", top 17, []⟩) rfl⟩ : TopDef K mg "inner_forms" (top 17) [] (He.ga K "inner_forms"))
  have T := (⟨(He.glo_ok X G (c.fact 50 (f := .glo "all_forms") rfl)), c.def_ 27 (d := ⟨fun K => He.ga K "all_forms", "all_forms", "all_forms", top 18, []⟩) rfl⟩ : TopDef K mg "all_forms" (top 18) [] (He.ga K "all_forms"))
  have h_all_forms := mkHas T (ok_allf (P := P) (w := w) (base := base) T.d h_inner_forms g_len) (T.d.bindsN fun _ _ _ _ _ _ us hl => match us, hl with | [_], _ => rfl)
  have h_filled_form := has_fill (P := P) (w := w) (base := base) (⟨(He.glo_ok X G (c.fact 51 (f := .glo "filled_form") rfl)), c.def_ 28 (d := ⟨fun K => He.ga K "filled_form", "filled_form", "filled_form", top 19, []⟩) rfl⟩ : TopDef K mg "filled_form" (top 19) [] (He.ga K "filled_form")) 4
  have h_Doc := has_Doc (P := P) (w := w) (base := base) Dc
  have p_form := hp_form (P := P) (w := w) (base := base) Dc
  have p_parts := hp_parts (P := P) (w := w) (base := base) Dc h_all_forms g_len
  have p_holes := hp_holes (P := P) (w := w) (base := base) Dc h_all_forms g_tuple g_sorted
  have h_require_doc := has_req (P := P) (w := w) (base := base) Dc (⟨(He.glo_ok X G (c.fact 52 (f := .glo "require_doc") rfl)), c.def_ 29 (d := ⟨fun K => He.ga K "require_doc", "require_doc", "require_doc", top 21, []⟩) rfl⟩ : TopDef K mg "require_doc" (top 21) [] (He.ga K "require_doc")) g_isinstance
  have m_nested := hm_nest (P := P) (w := w) (base := base) Dc h_is_integer gs
  have m_group := hm_grp (P := P) (w := w) (base := base) Dc
  have m_flattened := hm_fla (P := P) (w := w) (base := base) Dc
  have h_text := has_text (P := P) (w := w) (base := base) Dc (⟨(He.glo_ok X G (c.fact 53 (f := .glo "text") rfl)), c.def_ 30 (d := ⟨fun K => He.ga K "text", "text", "text", top 22, [.str ""]⟩) rfl⟩ : TopDef K mg "text" (top 22) [.str ""] (He.ga K "text")) h_is_string
  have h_line := has_line (P := P) (w := w) (base := base) Dc (⟨(He.glo_ok X G (c.fact 54 (f := .glo "line") rfl)), c.def_ 31 (d := ⟨fun K => He.ga K "line", "line", "line", top 23, [.str " "]⟩) rfl⟩ : TopDef K mg "line" (top 23) [.str " "] (He.ga K "line")) h_is_string
  have h_hole := has_hole (P := P) (w := w) (base := base) Dc (⟨(He.glo_ok X G (c.fact 55 (f := .glo "hole") rfl)), c.def_ 32 (d := ⟨fun K => He.ga K "hole", "hole", "hole", top 24, []⟩) rfl⟩ : TopDef K mg "hole" (top 24) [] (He.ga K "hole")) h_is_name
  have T25 := (⟨(He.glo_ok X G (c.fact 56 (f := .glo "filled") rfl)), c.def_ 33 (d := ⟨fun K => He.ga K "filled", "filled", "filled", top 25, []⟩) rfl⟩ : TopDef K mg "filled" (top 25) [] (He.ga K "filled"))
  have h_filled := kw_filled (P := P) (w := w) (base := base) Dc T25 h_require_doc g_sorted 4 h_filled_form
  have h_Desk := has_Desk (P := P) (w := w) (base := base) Dk
  have p_names := hp_names (P := P) (w := w) (base := base) Dk g_tuple g_sorted
  have h_after_put := has_after (P := P) (w := w) (base := base) (⟨(He.glo_ok X G (c.fact 57 (f := .glo "after_put") rfl)), c.def_ 34 (d := ⟨fun K => He.ga K "after_put", "after_put", "after_put", top 28, []⟩) rfl⟩ : TopDef K mg "after_put" (top 28) [] (He.ga K "after_put")) h_is_name h_require_doc
  have m_put := hm_put (P := P) (w := w) (base := base) Dk g_dict h_after_put
  have m_used := hm_used (P := P) (w := w) (base := base) Dk p_holes
  have m_led := hm_led (P := P) (w := w) (base := base) Dk m_used
  have m_filled_in := hm_filled_in (P := P) (w := w) (base := base) Dk m_used h_filled T25.g T25.d.kp 30
  have m_require := hm_require (P := P) (w := w) (base := base) Dk NNoSuchName h_is_name
  have ok_get := ok_getit (P := P) (w := w) (base := base) Dk NNoSuchName h_is_name
  have m_whole := hm_whole (P := P) (w := w) (base := base) Dk NCircular g_tuple g_sorted m_require m_led m_filled_in
  have gf := gf_order (P := P) (w := w) (base := base) Dk g_all g_sorted m_used
  have h__law_at := has_lat (P := P) (w := w) (base := base) (⟨(He.glo_ok X G (c.fact 58 (f := .glo "_law_at") rfl)), c.def_ 35 (d := ⟨fun K => He.ga K "_law_at", "_law_at", "_law_at", top 30, []⟩) rfl⟩ : TopDef K mg "_law_at" (top 30) [] (He.ga K "_law_at")) g_len
  have h__law_mixed := has_mix (P := P) (w := w) (base := base) (⟨(He.glo_ok X G (c.fact 59 (f := .glo "_law_mixed") rfl)), c.def_ 36 (d := ⟨fun K => He.ga K "_law_mixed", "_law_mixed", "_law_mixed", top 31, []⟩) rfl⟩ : TopDef K mg "_law_mixed" (top 31) [] (He.ga K "_law_mixed")) g_int
  have h__law_purse := has_prs (P := P) (w := w) (base := base) (⟨(He.glo_ok X G (c.fact 60 (f := .glo "_law_purse") rfl)), c.def_ 37 (d := ⟨fun K => He.ga K "_law_purse", "_law_purse", "_law_purse", top 32, []⟩) rfl⟩ : TopDef K mg "_law_purse" (top 32) [] (He.ga K "_law_purse")) g_int g_max h__law_at
  have h__law_draw := has_drw (P := P) (w := w) (base := base) (⟨(He.glo_ok X G (c.fact 61 (f := .glo "_law_draw") rfl)), c.def_ 38 (d := ⟨fun K => He.ga K "_law_draw", "_law_draw", "_law_draw", top 33, []⟩) rfl⟩ : TopDef K mg "_law_draw" (top 33) [] (He.ga K "_law_draw")) g_int g_range h__law_mixed
  have h__law_leaf := has_leaf (P := P) (w := w) (base := base) (⟨(He.glo_ok X G (c.fact 62 (f := .glo "_law_leaf") rfl)), c.def_ 39 (d := ⟨fun K => He.ga K "_law_leaf", "_law_leaf", "_law_leaf", top 34, []⟩) rfl⟩ : TopDef K mg "_law_leaf" (top 34) [] (He.ga K "_law_leaf")) g_len h__law_draw
  have h__law_form := has_frm (P := P) (w := w) (base := base) (⟨(He.glo_ok X G (c.fact 63 (f := .glo "_law_form") rfl)), c.def_ 40 (d := ⟨fun K => He.ga K "_law_form", "_law_form", "_law_form", top 35, []⟩) rfl⟩ : TopDef K mg "_law_form" (top 35) [] (He.ga K "_law_form")) g_int h__law_draw h__law_leaf 4
  have h__law_doc := has_ldoc (P := P) (w := w) (base := base) Dc (⟨(He.glo_ok X G (c.fact 64 (f := .glo "_law_doc") rfl)), c.def_ 41 (d := ⟨fun K => He.ga K "_law_doc", "_law_doc", "_law_doc", top 36, []⟩) rfl⟩ : TopDef K mg "_law_doc" (top 36) [] (He.ga K "_law_doc")) h_require_doc h_text h_line h_hole m_nested m_group m_flattened 4
  have h__law_names_in := has_nin (P := P) (w := w) (base := base) (⟨(He.glo_ok X G (c.fact 65 (f := .glo "_law_names_in") rfl)), c.def_ 42 (d := ⟨fun K => He.ga K "_law_names_in", "_law_names_in", "_law_names_in", top 37, []⟩) rfl⟩ : TopDef K mg "_law_names_in" (top 37) [] (He.ga K "_law_names_in")) g_isinstance g_tuple 4
  have h__law_used := has_lused (P := P) (w := w) (base := base) (⟨(He.glo_ok X G (c.fact 66 (f := .glo "_law_used") rfl)), c.def_ 43 (d := ⟨fun K => He.ga K "_law_used", "_law_used", "_law_used", top 38, []⟩) rfl⟩ : TopDef K mg "_law_used" (top 38) [] (He.ga K "_law_used")) g_set g_sorted h__law_names_in
  have h__law_led := has_lled (P := P) (w := w) (base := base) (⟨(He.glo_ok X G (c.fact 67 (f := .glo "_law_led") rfl)), c.def_ 44 (d := ⟨fun K => He.ga K "_law_led", "_law_led", "_law_led", top 39, []⟩) rfl⟩ : TopDef K mg "_law_led" (top 39) [] (He.ga K "_law_led")) g_set g_sorted g_list g_len g_range h__law_used
  have h__law_filled := has_lfil (P := P) (w := w) (base := base) (⟨(He.glo_ok X G (c.fact 68 (f := .glo "_law_filled") rfl)), c.def_ 45 (d := ⟨fun K => He.ga K "_law_filled", "_law_filled", "_law_filled", top 40, []⟩) rfl⟩ : TopDef K mg "_law_filled" (top 40) [] (He.ga K "_law_filled")) g_isinstance g_tuple 24
  have h__law_order := has_lord (P := P) (w := w) (base := base) (⟨(He.glo_ok X G (c.fact 69 (f := .glo "_law_order") rfl)), c.def_ 46 (d := ⟨fun K => He.ga K "_law_order", "_law_order", "_law_order", top 41, []⟩) rfl⟩ : TopDef K mg "_law_order" (top 41) [] (He.ga K "_law_order")) g_sorted g_len g_range h__law_used
  have h__law_caught := has_cau (P := P) (w := w) (base := base) (⟨(He.glo_ok X G (c.fact 70 (f := .glo "_law_caught") rfl)), c.def_ 47 (d := ⟨fun K => He.ga K "_law_caught", "_law_caught", "_law_caught", top 42, []⟩) rfl⟩ : TopDef K mg "_law_caught" (top 42) [] (He.ga K "_law_caught")) Dc Dk Y NNoSuchName NCircular g_isinstance g_int p_form m_whole ok_get
  have h__law_parts := has_lpar (P := P) (w := w) (base := base) (⟨(He.glo_ok X G (c.fact 71 (f := .glo "_law_parts") rfl)), c.def_ 48 (d := ⟨fun K => He.ga K "_law_parts", "_law_parts", "_law_parts", top 43, []⟩) rfl⟩ : TopDef K mg "_law_parts" (top 43) [] (He.ga K "_law_parts")) g_isinstance g_tuple g_sum 24
  have h__law_due := has_ldue (P := P) (w := w) (base := base) (⟨(He.glo_ok X G (c.fact 72 (f := .glo "_law_due") rfl)), c.def_ 49 (d := ⟨fun K => He.ga K "_law_due", "_law_due", "_law_due", top 44, []⟩) rfl⟩ : TopDef K mg "_law_due" (top 44) [] (He.ga K "_law_due")) g_set g_sorted g_tuple h__law_led h__law_filled
  have h__law_is_asked := has_lask (P := P) (w := w) (base := base) (⟨(He.glo_ok X G (c.fact 73 (f := .glo "_law_is_asked") rfl)), c.def_ 50 (d := ⟨fun K => He.ga K "_law_is_asked", "_law_is_asked", "_law_is_asked", top 45, []⟩) rfl⟩ : TopDef K mg "_law_is_asked" (top 45) [] (He.ga K "_law_is_asked")) h__law_led h__law_parts
  have h__law_is_small := has_lsml (P := P) (w := w) (base := base) (⟨(He.glo_ok X G (c.fact 74 (f := .glo "_law_is_small") rfl)), c.def_ 51 (d := ⟨fun K => He.ga K "_law_is_small", "_law_is_small", "_law_is_small", top 46, []⟩) rfl⟩ : TopDef K mg "_law_is_small" (top 46) [] (He.ga K "_law_is_small")) h__law_is_asked
  have h__law_drawn := has_ldrn (P := P) (w := w) (base := base) (⟨(He.glo_ok X G (c.fact 75 (f := .glo "_law_drawn") rfl)), c.def_ 52 (d := ⟨fun K => He.ga K "_law_drawn", "_law_drawn", "_law_drawn", top 47, []⟩) rfl⟩ : TopDef K mg "_law_drawn" (top 47) [] (He.ga K "_law_drawn")) g_int g_range h__law_draw h__law_form
  have h__law_fixed_right := has_fix (P := P) (w := w) (base := base) (⟨(He.glo_ok X G (c.fact 76 (f := .glo "_law_fixed_right") rfl)), c.def_ 53 (d := ⟨fun K => He.ga K "_law_fixed_right", "_law_fixed_right", "_law_fixed_right", top 48, []⟩) rfl⟩ : TopDef K mg "_law_fixed_right" (top 48) [] (He.ga K "_law_fixed_right")) Dc Dk Z g_isinstance h_require_doc h_Desk m_put h_text h_hole h__law_caught gf m_whole
  have T49 := (⟨(He.glo_ok X G (c.fact 77 (f := .glo "law") rfl)), c.def_ 54 (d := ⟨fun K => He.ga K "law", "law", "law", top 49, []⟩) rfl⟩ : TopDef K mg "law" (top 49) [] (He.ga K "law"))
  refine ⟨T49.d, T49.g, ?_⟩
  refine has_law (P := P) (w := w) (base := base) T49 Dc Dk (fs := [He.ga K "_law_purse", He.ga K "_law_drawn", He.ga K "_law_is_small", He.ga K "_law_doc", He.ga K "_law_caught", He.ga K "_law_due", He.ga K "_law_order", He.ga K "_law_draw", He.ga K "_law_fixed_right", He.ga K "text", He.ga K "hole", He.ga K "require_doc"]) ?_
  exact { g_len := g_len, g_min := g_min, g_range := g_range, g_tuple := g_tuple, g_sorted := g_sorted, h__law_purse := h__law_purse, h__law_drawn := h__law_drawn, h__law_is_small := h__law_is_small, h_Desk := h_Desk, h__law_doc := h__law_doc, h__law_caught := h__law_caught, h__law_due := h__law_due, h__law_order := h__law_order, h__law_draw := h__law_draw, h__law_fixed_right := h__law_fixed_right, h_text := h_text, h_hole := h_hole, h_require_doc := h_require_doc, m_put := m_put, gf_order := gf, p_names := p_names, m_whole := m_whole, p_holes := p_holes, p_parts := p_parts }
end
end Q41
set_option maxRecDepth 100000
set_option maxHeartbeats 0
/-! The head: one run of the top in the kernel. -/
namespace Q41
open PySem PySem.Spec PyProof.Rows L2
def loose0 : List Str := ["_wall", "LayoutError", "InvalidText", "InvalidSteps", "InvalidName", "NotADocument", "NoSuchName", "Circular", "NothingToUndo", "LETTERS", "MOST_LETTERS", "MOST_STEPS", "is_string", "is_integer", "is_name", "inner_forms", "all_forms", "filled_form", "Doc", "require_doc", "text", "line", "hole", "filled", "Desk"]
def loose1 : List Str := ["after_put", "_law_at", "_law_mixed", "_law_purse", "_law_draw", "_law_leaf", "_law_form", "_law_doc", "_law_names_in", "_law_used", "_law_led", "_law_filled", "_law_order", "_law_caught", "_law_parts", "_law_due", "_law_is_asked", "_law_is_small", "_law_drawn", "_law_fixed_right"]
def loose41 : List Str := loose0 ++ loose1
/-- the objects that the facts look at -/
def as41 : List Addr := [3, 302, 301, 501, 500, 132, 131, 152, 151, 31, 30, 227, 235, 241, 380, 219, 218, 226, 225, 234, 233, 240, 239, 264, 263, 271, 270, 285, 284, 292, 291, 299, 298, 357, 356, 379, 378, 436, 435, 387, 386, 394, 393, 457, 456, 462, 461, 469, 468, 474, 473, 479, 478, 484, 483, 278, 277, 129, 128, 122, 149, 148, 142, 171, 170, 179, 178, 172, 184, 183, 191, 190, 198, 197, 205, 204, 313, 312, 321, 320, 314, 329, 328, 322, 336, 335, 343, 342, 512, 511, 519, 518, 526, 525, 533, 532, 540, 539, 547, 546, 554, 553, 561, 560, 568, 567, 573, 572, 580, 579, 587, 586, 592, 591, 599, 598, 604, 603, 609, 608, 614, 613, 619, 618, 624, 623, 629, 628, 634, 633]
abbrev R41 : PySem.W.OpenRow := PySem.W.OpenLaw.row PySem.Challenge.rw_layoutsets_k41_whole_documents_of_a_desk
abbrev q41 : Program := PySem.W.view R41.prog [49]
abbrev hk41 : PySem.W.Hook := hookQ as41 fa41 fn41 ex41
def ob41 (s : PySem.W.SharedT) : AlQ := lookG as41 fa41 fn41 ex41 (HandSHeadRun.getT s)
theorem ob41_eq (s : PySem.W.SharedT) : ob41 s = hk41.obs s.abs := lookG_eq (HandSHeadRun.getT_eq s)
theorem run41 (w : World) : HandSHeadRun.RunEq R41 q41 hk41 ob41 12000 loose41 w := by
  intro os
  kernel_rfl
end Q41
set_option maxRecDepth 100000
set_option maxHeartbeats 0
open PySem PySem.W PySem.Calls PyProof.Rows
theorem PySem.Challenge.cw_layoutsets_k41_whole_documents_of_a_desk_holds : PySem.Challenge.rw_layoutsets_k41_whole_documents_of_a_desk.Holds := by
  w_on; o_law
  refine HandSHeadRun.head_any (r := Q41.R41) (q := Q41.q41) (H := Q41.hk41) (ob := Q41.ob41) (M := 12000) (loose := Q41.loose41) (d := HandSHeadRun.topDef Q41.R41.prog 49) (kwd := []) Q41.ob41_eq (by kernel_rfl) (fun s => by kernel_rfl) Q41.run41 (by kernel_rfl) (by kernel_rfl) (by kernel_rfl) (by rfl) (by first | assumption | decide +kernel) (by decide +kernel) ⟨rfl, rfl, rfl, rfl, rfl, by decide +kernel⟩ ?hw ?hc
  case hw => w_witness2
  case hc =>
    refine Q41.walk_ofW (l := PySem.Challenge.rw_layoutsets_k41_whole_documents_of_a_desk) (n := 63) (k := 43) (x := "_law_script") rfl (by decide) (by kernel_rfl) ⟨rfl, by decide, by decide⟩ ?F
    intro w mg f h Y G hmg0
    obtain ⟨K, KX, c⟩ := Y
    have e : (HandSHeadRun.topDef Q41.R41.prog 49).name = ("law" : PySem.Str) := by kernel_rfl
    rw [e] at hmg0
    obtain ⟨T, g, L⟩ := Q41.law_of (P := Q41.prg) (w := w) (base := h) KX G c
    have ef := hmg0.symm.trans g
    cases ef
    have b := L2.FunD.bindsA (ps := ["_law_script"]) T fun _ _ _ _ _ _ us hl => match us, hl with | [_], _ => rfl
    exact ⟨K, _, Q41.spLaw K, KX, fun s v => b s [v] rfl, fun H a ns hS => ⟨a, ns, rfl, hS, fun _ => rfl⟩, fun base X B => (Q41.law_of (P := Q41.prg) (w := w) (base := base) X B c).2.2.F⟩
