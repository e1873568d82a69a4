import PyProof.Rows.All
import Wide.All
import OpenK.AllK
import Wide.FinOn
import KE.SortData
import HandS.ForMost
import HandS.Set
import HandS.SetFor
import HandS.SetKeys
import HandS.SortInts
import HandS.DictComp
import HandS.Walk
import HandS.Evl
import HandS.Deep
import HandS.Defaults
import PyProof.ReprReads
import HandS.IsInst
import HandS.Zip
import HandS.Style
import HandS.Star
import HandS.TupAny
import HandS.Conv
import HandS.More
import PySem.Challenge.RW_throughwalls_k84_whole_blends_of_marks
import KE.GoesEnum
import HandS.TupSets
import HandS.DictTup
import HandS.RaiseMore
import HandS.DeepEq
import KE.KEqDict
import PyProof.StrWalks
import HandS.TupLe
import HandS.Property
import HandS.OwnEq
import KE.KDictPairs
import HandS.Keys
import KE.KDictDisplayH
import KE.KDictCopyH
import KE.DataCmp
import KE.KDictZip
import KE.KItemsList
import HandS.ListItems
import PyProof.ReprLen
import PyProof.StrLawsRepr
set_option Elab.async false
set_option linter.all false
set_option maxRecDepth 100000
set_option maxHeartbeats 4000000
/-! sets of keys (ints and texts) made of a list or a tuple; sorted of such a set -/
namespace TW
open PySem PySem.Spec PyProof.Rows L2

/-! ### a set of keys that can be walked -/
def kOf (e : Int × Value) : Key := match e.2 with
  | .int i _ => .inl i
  | .str x _ => .inr x
  | _ => .inl 0
theorem kOf_is {k : Key} {h : Int} {u : Value} (q : keyIs k u = true) : kOf (h, u) = k := by
  rcases keyIs_shape q with ⟨i, t, rfl, rfl⟩ | ⟨x, t, rfl, rfl⟩ <;> rfl
theorem is_kOf {k k' : Key} {u : Value} (q : keyIs k u = true) : keyIs k' u = true ↔ k = k' := by
  rcases keyIs_shape q with ⟨i, t, rfl, rfl⟩ | ⟨x, t, rfl, rfl⟩
  · constructor
    · intro z
      rcases keyIs_shape z with ⟨j, u, rfl, e⟩ | ⟨y, u, rfl, e⟩
      · injection e with e1 _; rw [e1]
      · exact nomatch e
    · rintro rfl; exact q
  · constructor
    · intro z
      rcases keyIs_shape z with ⟨j, u, rfl, e⟩ | ⟨y, u, rfl, e⟩
      · exact nomatch e
      · injection e with e1 _; rw [e1]
    · rintro rfl; exact q
def OkE (w : World) (e : Int × Value) : Prop := keyIs (kOf e) e.2 = true ∧ e.1 = keyH w (kOf e)
def KS (w : World) (h : Heap) (a : Addr) (ks : List Key) (n : Nat) : Prop :=
  ∃ o es ep t, (h.get? a = some o ∧ o.ExactSet ∧ o.data = .set es ep t) ∧ ((∀ e ∈ es.toList, OkE w e) ∧ (es.toList.map kOf).Nodup ∧ ∀ k, k ∈ ks ↔ k ∈ es.toList.map kOf) ∧
    (es.size < scanBound ∧ t.fits es.size = true ∧ es.size = n) ∧ Ris t.place.toList ∧ (w.params.followText "set-order" = true ∨ t.led = true)
section
variable {P : Program} {w : World} {h h' : Heap} {a : Addr} {ks : List Key} {n : Nat}
theorem KS.at (R : KS w h a ks n) (k : ∀ o, h.get? a = some o → h'.get? a = some o) : KS w h' a ks n := by
  obtain ⟨o, es, ep, t, ⟨ho, r1⟩, r⟩ := R
  exact ⟨o, es, ep, t, ⟨k o ho, r1⟩, r⟩
theorem KS.congr {ks' : List Key} (R : KS w h a ks n) (e : ∀ k, k ∈ ks' ↔ k ∈ ks) : KS w h a ks' n := by
  obtain ⟨o, es, ep, t, r1, ⟨g, nd, m⟩, r⟩ := R
  exact ⟨o, es, ep, t, r1, ⟨g, nd, fun k => (e k).trans (m k)⟩, r⟩
theorem okE_elems {l : List (Int × Value)} (g : ∀ e ∈ l, OkE w e) : ElemsOf (mixKind P w) l := fun e he => by
  obtain ⟨h1, h2⟩ := g e he
  refine ⟨⟨kOf e, h1, h2⟩, ?_⟩
  rcases keyIs_shape h1 with ⟨i, t, _, q⟩ | ⟨x, t, _, q⟩ <;> rw [q] <;> rfl
theorem okE_mem {l : List (Int × Value)} (g : ∀ e ∈ l, OkE w e) (k : Key) : k ∈ l.map kOf ↔ ∃ e ∈ l, (mixKind P w).is k e.2 = true := by
  rw [List.mem_map]
  constructor
  · rintro ⟨e, he, q⟩; exact ⟨e, he, (is_kOf (g e he).1).2 q⟩
  · rintro ⟨e, he, q⟩; exact ⟨e, he, (is_kOf (g e he).1).1 q⟩
end
section
variable {P : Program} {w : World} {A : Around} {E : Value → Shared → Prop} {s : Shared} {a : Addr} {ks : List Key} {n : Nat}
theorem ks_tail {g : Bool → Sem Unit} (hg : ∀ (b : Bool) (z : Shared) (R' : Unit → Shared → Prop), R' () z → wpAny (model P w) A (g b) R' E z)
    {o : Obj} {es : Array (Int × Value)} {ep : Nat} {t : SetTable} (ho : s.heap.get? a = some o) (hex : o.ExactSet) (hd : o.data = .set es ep t)
    {es1 : Array (Int × Value)} {t2 : SetTable} {ks' : List Key} (gm : (∀ e ∈ es1.toList, OkE w e) ∧ (es1.toList.map kOf).Nodup ∧ ∀ k, k ∈ ks' ↔ k ∈ es1.toList.map kOf)
    (hb1 : es1.size < scanBound) (hf2 : t2.fits es1.size = true) (hr : Ris t2.place.toList) (hl : w.params.followText "set-order" = true ∨ t2.led = true) {dum : Bool} {R : Option Bool → Shared → Prop}
    (hR : ∀ h', Heap.SameBut a s.heap h' → KS w h' a ks' es1.size → R (some true) { s with heap := h' }) :
    wpAny (model P w) A (do
        storeSet a es1 t2
        if (!dum && t2.tooFull) = true then do
            g (relayAll t2 es1 (SetTable.grown es1.size)).2.2
            storeSet a (relayAll t2 es1 (SetTable.grown es1.size)).1 (relayAll t2 es1 (SetTable.grown es1.size)).2.1
            pure (some true)
          else pure (some true)) R E s := by
  refine wpAny_bind (wpAny_storeSet_of ho hd ?_ (fits_of_scanBound hb1))
  have u1 := store_at (es' := es1) (t' := t2) ho hd
  have c1 := Heap.SameBut.update s.heap a (Obj.putSet es1 t2)
  split
  · have pm := relayAll_perm t2 es1 (SetTable.grown es1.size)
    have f3 := relayAll_fits t2 es1 (SetTable.grown es1.size)
    have r3 := relayAll_ris t2 es1 (SetTable.grown es1.size)
    have l3 := relayAll_led t2 es1 (SetTable.grown es1.size)
    generalize relayAll t2 es1 (SetTable.grown es1.size) = Z at pm f3 r3 l3 ⊢
    obtain ⟨es2, t3, gv⟩ := Z
    dsimp only at pm f3 r3 l3 ⊢
    have hsz : es2.size = es1.size := by rw [← Array.length_toList, pm.length_eq, Array.length_toList]
    have hb2 : es2.size < scanBound := hsz ▸ hb1
    refine wpAny_bind (hg _ _ _ (wpAny_bind (wpAny_storeSet_of u1 rfl (wpAny_pure (hR _ (c1.trans (Heap.SameBut.update _ a _)) ?_)) (fits_of_scanBound hb2))))
    have u2 := store_at (es' := es2) (t' := t3) u1 rfl
    exact ⟨_, es2, _, t3, ⟨u2, hex, rfl⟩, ⟨fun e he => gm.1 e (pm.mem_iff.mp he), (pm.map kOf).nodup_iff.mpr gm.2.1, fun k => (gm.2.2 k).trans (pm.map kOf).mem_iff.symm⟩, ⟨hb2, f3, hsz⟩, r3, hl.imp id fun z => by rw [l3]; exact z⟩
  · exact wpAny_pure (hR _ c1 ⟨_, es1, _, t2, ⟨u1, hex, rfl⟩, gm, ⟨hb1, hf2, rfl⟩, hr, hl⟩)

theorem ks_addH {k : Key} {u : Value} {Q : Bool → Shared → Prop} (hku : keyIs k u = true) (R : KS w s.heap a ks n) (room : n + 1 < scanBound)
    (hQ : ∀ b h' n', Heap.SameBut a s.heap h' → n' ≤ n + 1 → KS w h' a (k :: ks) n' → Q b { s with heap := h' }) :
    wpAny (model P w) A (setAddHashed a u ((mixKind P w).hash k)) Q E s := by
  obtain ⟨o, es, ep, t, ⟨ho, hex, hd⟩, ⟨g, nd, hm⟩, ⟨hb, hf, hn⟩, hr, hl⟩ := R
  have hkey : (mixKind P w).is k u = true := hku
  have hsc : u.scannable = true := by rcases keyIs_shape hku with ⟨i, t, _, q⟩ | ⟨x, t, _, q⟩ <;> rw [q] <;> rfl
  have hel : ElemsOf (mixKind P w) es.toList := okE_elems g
  unfold setAddHashed setAddHashedIn
  refine wpAny_holding (wpAny_bind (wpAny_setState_of ho hd hf ?_))
  dsimp only
  rw [byScan_of hsc hb hel]
  simp only [↓reduceIte]
  unfold setAddByScan
  refine wpAny_bind (wpAny_bind (wpAny_rule (wpAny_bind (wpAny_setScan_of hkey ho hd hf hel ?_))))
  cases hfi : List.findIdx? (fun e => (mixKind P w).is k e.2) es.toList with
  | some j =>
    dsimp only
    obtain ⟨hj, pj, _⟩ := List.findIdx?_eq_some_iff_getElem.mp hfi
    have hin : k ∈ es.toList.map kOf := (okE_mem (P := P) g k).2 ⟨es.toList[j], List.getElem_mem hj, pj⟩
    refine wpAny_pure (wpAny_pure (hQ _ s.heap n (Heap.SameBut.refl a s.heap) (Nat.le_succ n) ⟨o, es, ep, t, ⟨ho, hex, hd⟩, ⟨g, nd, fun i => ?_⟩, ⟨hb, hf, hn⟩, hr, hl⟩))
    rw [List.mem_cons, hm i]
    exact ⟨fun z => z.elim (fun e => e ▸ hin) id, .inr⟩
  | none =>
    dsimp only
    have hnk : k ∉ es.toList.map kOf := fun z => by
      obtain ⟨e, he, q⟩ := (okE_mem (P := P) g k).1 z
      have c := List.findIdx?_eq_none_iff.mp hfi e he
      rw [q] at c; cases c
    have hgw : ∀ (b : Bool) {z : Shared} {R' : Unit → Shared → Prop}, R' () z → wpAny (model P w) A (match b with | true => rule "set.scan.the-table-gave-way" | false => pure ()) R' E z :=
      fun b z R' q => by cases b <;> first | exact wpAny_pure q | exact wpAny_rule q
    have pm := layNew_perm t es ((mixKind P w).hash k) u
    have f1 := layNew_fits t es ((mixKind P w).hash k) u
    have r1 := layNew_ris t es ((mixKind P w).hash k) u hr
    have l1 := layNew_led t es ((mixKind P w).hash k) u
    generalize layNew t es ((mixKind P w).hash k) u = Z at pm f1 r1 l1 ⊢
    obtain ⟨es1, t1, dum, gv⟩ := Z
    dsimp only at pm f1 r1 l1 ⊢
    rw [Array.toList_push] at pm
    have pc : es1.toList.Perm (((mixKind P w).hash k, u) :: es.toList) := pm.trans (List.perm_append_singleton _ _)
    have pk : (es1.toList.map kOf).Perm (k :: es.toList.map kOf) := by
      have z := pc.map kOf
      rw [List.map_cons, kOf_is hku] at z
      exact z
    have gm : (∀ e ∈ es1.toList, OkE w e) ∧ (es1.toList.map kOf).Nodup ∧ ∀ i, i ∈ k :: ks ↔ i ∈ es1.toList.map kOf := by
      refine ⟨fun e he => ?_, pk.nodup_iff.mpr (List.nodup_cons.mpr ⟨hnk, nd⟩), fun i => by rw [pk.mem_iff, List.mem_cons, List.mem_cons, hm i]⟩
      rcases List.mem_cons.mp (pc.mem_iff.mp he) with z | z
      · rw [z]
        refine ⟨?_, ?_⟩
        · rw [kOf_is hku]; exact hku
        · rw [kOf_is hku]; rfl
      · exact g e z
    have hsz : es1.size = n + 1 := by rw [← Array.length_toList, pc.length_eq, List.length_cons, Array.length_toList, hn]
    have hb1 : es1.size < scanBound := hsz ▸ room
    have hled : w.params.followText "set-order" = true ∨ t1.led = true := hl.imp id fun z => by rw [l1]; exact z
    have fin : ∀ h', Heap.SameBut a s.heap h' → KS w h' a (k :: ks) es1.size → Q true { s with heap := h' } := fun h' sb r => hQ true h' _ sb (by rw [hsz]; exact Nat.le_refl _) r
    refine wpAny_bind (hgw _ ?_)
    split
    · refine wpAny_bind ?_
      rw [hashByValue_scannable 8 hsc]
      refine wpAny_pure (ks_tail (fun b z R' q => by cases b <;> first | exact wpAny_pure q | exact wpAny_rule q) ho hex hd gm hb1 ?_ ?_ ?_ ?_)
      · first | (split <;> first | exact f1 | exact SetTable.fits_plain_off f1) | exact f1
      · first | (split <;> exact r1) | exact r1
      · first | (split <;> exact hled) | exact hled
      · intro h' sb r; dsimp only; exact wpAny_pure (fin h' sb r)
    · refine wpAny_bind (wpAny_pure ?_)
      simp only [↓reduceIte]
      refine ks_tail (fun b z R' q => by cases b <;> first | exact wpAny_pure q | exact wpAny_rule q) ho hex hd gm hb1 f1 r1 hled ?_
      intro h' sb r; dsimp only; exact wpAny_pure (fin h' sb r)
end
end TW
set_option Elab.async false
set_option linter.all false
set_option maxRecDepth 100000
set_option maxHeartbeats 8000000
namespace TW
open PySem PySem.Spec PyProof.Rows L2

theorem nin2 {a b c : Addr} (h1 : a ≠ b) (h2 : a ≠ c) : a ∉ [b, c] := by
  intro h
  rcases List.mem_cons.mp h with z | z
  · exact h1 z
  · exact h2 (List.mem_singleton.mp z)
section
variable {P : Program} {w : World} {A : Around} {E : Value → Shared → Prop} {s : Shared}
abbrev emptyS (w : World) : Obj := { cls := .type "set", dict := none, data := .set #[] 0 (.fresh 0 0 (!w.params.followText "set-order")) }
theorem ks_new {h : Heap} {a : Addr} (ho : h.get? a = some (emptyS w)) : KS w h a [] 0 :=
  ⟨_, #[], 0, _, ⟨ho, ⟨rfl, rfl, rfl⟩, rfl⟩, ⟨fun e he => by simp at he, by simp, fun k => by simp⟩, ⟨by decide, by rfl, rfl⟩, List.Pairwise.nil, by
    show _ ∨ (!w.params.followText "set-order") = true
    cases w.params.followText "set-order" <;> simp⟩
/-- the turns of set.update -/
theorem ks_update {I : Addr} {fp wr : List Addr} {G : Array GenState → Array GenState → Prop} {n : Nat} {Pv : Nat → Value → Prop} {St : Nat → Shared → Prop} {R : Result → Shared → Prop}
    (W : WalksS P w A.in1 I fp wr G n Pv St) (S : Addr) (hSf : S ∉ fp) (ks : List Key) (hn : n = ks.length) (hb : ks.length + 1 < scanBound) (hval : ∀ i v, Pv i v → ∃ k, ks[i]? = some k ∧ keyIs k v = true) :
    ∀ (m i : Nat) (s : Shared), n - i = m → i ≤ n → St i s → (∃ c, c ≤ i ∧ KS w s.heap S (ks.take i) c) →
      (∀ s' c, Moved (S :: wr) G s s' → c ≤ n → KS w s'.heap S ks c → R (.ok (.ret .none)) s') → codeAny (model P w) A (.builtin "set.update.loop" ⟨[.ref S, .ref I], []⟩) R s := by
  have nw : S ∉ wr := fun h => hSf (W.sub _ h)
  have sb : ∀ b ∈ wr, b ∈ S :: wr := fun b hb => List.mem_cons_of_mem _ hb
  intro m
  induction m with
  | zero =>
    intro i s hm hi hst ⟨c, hc, hS⟩ hR
    obtain rfl : i = n := by omega
    refine codeAny_builtin F.entry_set_update_loop ?_
    rw [Around.under_plainId F.plain_set_update_loop _]
    show wpAny _ A.in1 (pyNext (.ref I) >>= _) _ _ s
    refine wpAny_bind (W.done s _ _ hst fun s' mv => ?_)
    rw [List.take_of_length_le (by omega)] at hS
    exact wpAny_pure (hR s' c (mv.mono sb) hc (hS.at fun o e => mv.heap S o nw e))
  | succ m ih =>
    intro i s hm hi hst ⟨c, hc, hS⟩ hR
    have lt : i < n := by omega
    refine codeAny_builtin F.entry_set_update_loop ?_
    rw [Around.under_plainId F.plain_set_update_loop _]
    show wpAny _ A.in1 (pyNext (.ref I) >>= _) _ _ s
    refine wpAny_bind (W.item i s _ _ lt hst fun v s' hP st' mv => ?_)
    obtain ⟨k, hk, hv⟩ := hval i v hP
    have S1 : KS w s'.heap S (ks.take i) c := hS.at fun o e => mv.heap S o nw e
    show wpAny _ A.in1 (holding [v] (setAdd S v) >>= _) _ _ s'
    refine wpAny_bind (wpAny_holding ?_)
    unfold setAdd
    refine wpAny_holding (wpAny_bind ((mixKind P w).pyHash (k := k) hv ?_))
    refine ks_addH hv S1 (by omega) fun b h' n' sbt hn' S2 => ?_
    have S3 : KS w h' S (ks.take (i + 1)) n' := S2.congr fun j => by
      rw [List.take_add_one, hk]
      simp [List.mem_append, or_comm]
    refine wpAny_pure ⟨plainId_quiet F.plain_set_update_loop _, ih (i + 1) _ (by omega) lt (W.frame _ s' _ _ st' (Nat.le_succ _) fun b hb o e => ?_) ⟨n', by omega, S3⟩ fun s2 c2 mv2 hc2 hS2 => ?_⟩
    · rw [sbt.2 b (fun h : b = S => hSf (h ▸ hb))]; exact e
    · refine hR s2 c2 (Moved.trans W.gtrans ((mv.mono sb).then_heap (Nat.le_succ _) fun b o hb e => ?_) mv2) hc2 hS2
      rw [sbt.2 b (fun h : b = S => hb (h ▸ List.mem_cons_self))]; exact e

theorem ks_code1 (a : Value) {Q₁ : Value → Shared → Prop} (h : Q₁ (.ref s.heap.objs.size) { s with heap := s.heap.push (emptyS w) }) :
    codeAny (model P w) A (.call (.builtin "set.__new__") ⟨[.type "set", a], []⟩) (wants Q₁ E) s := code_set_led1 a h

/-- the values are these keys -/
def KeysAre (items : Array Value) (ks : List Key) : Prop := items.size = ks.length ∧ ∀ (i : Nat) (v : Value), items[i]? = some v → ∃ k, ks[i]? = some k ∧ keyIs k v = true

set_option maxHeartbeats 8000000 in
theorem call_set1 {a : Value} {Q : Value → Shared → Prop}
    (h : wpAny (model P w) A.in1.in1 (Builtin.«set.__init__» ⟨[.ref s.heap.objs.size, a], []⟩) (fun fin z => fin = .done (.ret .none) ∧ Q (.ref s.heap.objs.size) z) (fun _ _ => False) { s with heap := s.heap.push (emptyS w) }) :
    wpAny (model P w) A (call (.type "set") [a]) Q E s := by
  obtain ⟨c, tl, hmro⟩ := F.called_set.mro
  have x1 := F.called_set.made
  have x2 := F.called_set.sub
  refine wpAny_call (codeAny_of_tree ?_)
  show wpAny _ _ (callAny (.type "set") _) _ _ _
  refine wpAny_pure ⟨Code.quiet_builtin _ (by decide +kernel), codeAny_builtin F.entry_type_call ?_⟩
  rw [Around.under_plain (weight_type_call_type "set" [a] []) rfl]
  have x3 := F.called_set.notType
  have x4 := F.called_set.canCreate
  have x5 := F.typeCall_set_1 a
  repeat (any_goals (first | assumption | wp_step))
  refine codeAny_mono (ks_code1 a (E := E) (Q₁ := fun obj z => obj = .ref s.heap.objs.size ∧ z = { s with heap := s.heap.push (emptyS w) }) ⟨rfl, rfl⟩) fun r z hr => ?_
  cases r with
  | error e => exact hr
  | ok fl =>
    cases fl with
    | ret obj =>
      obtain ⟨rfl, rfl⟩ := hr
      have hT : Shared.TypeIs { s with heap := s.heap.push (emptyS w) } (.ref s.heap.objs.size) "set" := ⟨_, Heap.get?_push_size _ rfl, rfl⟩
      have x6 := F.called_set.init.lookup
      have x7 := F.called_set.init.bind (.ref s.heap.objs.size)
      repeat (any_goals (first | assumption | wp_step))
      refine codeAny_mono (codeAny_call_builtin (R := wants (fun r z => r = .none ∧ Q (.ref s.heap.objs.size) z) E)
        F.called_set.init.plain F.entry_set_init (check_set_init_1 hT (wpAny_mono h (fun fin z hz => ?_) fun _ _ z => False.elim z))) fun r₂ s₂ hr₂ => ?_
      · obtain ⟨rfl, hz⟩ := hz
        exact ⟨rfl, hz⟩
      · cases r₂ with
        | error e => exact hr₂
        | ok fl₂ =>
          cases fl₂ with
          | ret r =>
            obtain ⟨rfl, hz⟩ := hr₂
            repeat (any_goals (first | assumption | wp_step))
          | _ => exact hr₂.elim
    | _ => exact hr.elim
theorem upd_seq {T : String} {S l : Addr} {Q : Unit → Shared → Prop} (hT : s.TypeIs (.ref l) T) (h1 : isSubtype (.type T) (.type "set") = pure false) (h2 : isSubtype (.type T) (.type "frozenset") = pure false) (h3 : (Value.type T == Value.type "dict") = false)
    (h : wpAny (model P w) A (pyIter (.ref l)) (fun it z => wpAny (model P w) A (runValue (.builtin "set.update.loop" ⟨[.ref S, it], []⟩)) (fun _ z => Q () z) E z) E s) :
    wpAny (model P w) A (Builtin.Frozenset.updateFrom "set.__init__" S (.ref l)) Q E s := by
  unfold Builtin.Frozenset.updateFrom
  generalize hPI : pyIter = PI
  generalize hRV : runValue = RV
  wp_walk
  subst hPI
  subst hRV
  exact wpAny_mono h (fun it z hz => wpAny_bind (wpAny_mono hz (fun _ z hq => wpAny_pure hq) fun _ _ e => e)) fun _ _ e => e
theorem set_init {S : Addr} {a : Value} {Q : Fin → Shared → Prop} (hS : s.heap.get? S = some (emptyS w))
    (h : wpAny (model P w) A (Builtin.Frozenset.updateFrom "set.__init__" S a) (fun _ z => Q (.done (.ret .none)) z) E s) : wpAny (model P w) A (Builtin.«set.__init__» ⟨[.ref S, a], []⟩) Q E s := by
  unfold Builtin.«set.__init__» noKeywords
  generalize hPI : Builtin.Frozenset.updateFrom = PI at *
  wp_walk
  subst hPI
  exact wpAny_mono h (fun it z hz => wpAny_pure hz) fun _ _ e => e
theorem call_set_keys {l : Addr} {items : Array Value} (ks : List Key) {Q : Value → Shared → Prop} (hh : A.handled = none) (hl : s.heap.IsTuple l items ∨ s.heap.IsList l items) (hit : KeysAre items ks) (hb : ks.length + 1 < scanBound)
    (h : ∀ (h' : Heap) (tk c : Nat), KS w h' s.heap.objs.size ks c → c ≤ ks.length → (∀ b o, s.heap.get? b = some o → h'.get? b = some o) → Q (.ref s.heap.objs.size) { s with heap := h', toks := tk }) :
    wpAny (model P w) A (call (.type "set") [.ref l]) Q E s := by
  have hS : (s.heap.push (emptyS w)).get? s.heap.objs.size = some (emptyS w) := Heap.get?_push_size _ rfl
  refine call_set1 (set_init hS ?_)
  have hh3 : A.in1.in1.in1.handled = none := by simp [hh]
  have hz1 : (s.heap.push (emptyS w)).objs.size = s.heap.objs.size + 1 := Heap.size_push ..
  have fin : ∀ {wr : List Addr} {s' : Shared} {c : Nat} {G : Array GenState → Array GenState → Prop} {o0 : Obj} {g0 : ∀ {x y}, G x y → y = x}, wr = [s.heap.objs.size + 1] →
      Moved (s.heap.objs.size :: wr) G { s with heap := (s.heap.push (emptyS w)).push o0 } s' → c ≤ items.size → KS w s'.heap s.heap.objs.size ks c → Q (.ref s.heap.objs.size) s' := fun {wr s' c G o0 g0} ew mv hc hk => by
    subst ew
    obtain ⟨h', g2, d', tk', os'⟩ := s'
    obtain rfl : g2 = s.gens := g0 mv.gens
    obtain rfl : d' = s.drawn := mv.drawn
    obtain rfl : os' = s.os := mv.os
    rw [hit.1] at hc
    refine h h' tk' c hk hc fun b o e => ?_
    have hb0 : b < s.heap.objs.size := Heap.lt_size e
    exact mv.heap b o (nin2 (Nat.ne_of_lt hb0) (Nat.ne_of_lt (Nat.lt_succ_of_lt hb0))) (Heap.get?_push_of_some _ (Heap.get?_push_of_some _ e))
  rcases hl with hl | hl
  · have hl1 : (s.heap.push (emptyS w)).IsTuple l items := hl.push _
    have hlS : l < s.heap.objs.size := by
      obtain ⟨ol, hol, _⟩ := hl
      exact Heap.lt_size hol
    have hneI : l ≠ (s.heap.push (emptyS w)).objs.size := by rw [hz1]; exact Nat.ne_of_lt (Nat.lt_succ_of_lt hlS)
    obtain ⟨ol, hol, hcl, _⟩ := id hl1
    refine upd_seq (T := "tuple") ⟨ol, hol, hcl⟩ F.sub_tuple_set F.sub_tuple_frozenset (by decide) (wpAny_pyIter_tuple hl1 (wpAny_runValue ?_))
    refine ks_update ((Walks.tuple hh3 _ l hneI items).toS) s.heap.objs.size (by rw [hz1]; exact nin2 (Nat.ne_of_lt (Nat.lt_succ_self _)) (Nat.ne_of_gt hlS)) ks hit.1 hb hit.2 (items.size - 0) 0 _ (by omega) (Nat.zero_le _)
      ⟨⟨_, Heap.get?_push_size _ rfl, rfl, rfl⟩, (hl1.push _)⟩ ⟨0, Nat.le_refl 0, ks_new (Heap.get?_push_of_some _ hS)⟩ ?_
    intro s' c' hm hc' hS'
    exact ⟨rfl, fin (g0 := fun z => z) (by rw [hz1]) hm hc' hS'⟩
  · have hl1 : (s.heap.push (emptyS w)).IsList l items := hl.push _
    obtain ⟨ol, hol, hcl, _⟩ := id hl
    have hlS : l < s.heap.objs.size := Heap.lt_size hol
    have hneI : l ≠ (s.heap.push (emptyS w)).objs.size := by rw [hz1]; exact Nat.ne_of_lt (Nat.lt_succ_of_lt hlS)
    refine upd_seq (T := "list") ⟨ol, Heap.get?_push_of_some _ hol, hcl⟩ F.sub_list_set F.sub_list_frozenset (by decide) (wpAny_pyIter_list hl1 (wpAny_runValue ?_))
    refine ks_update ((Walks.list hh3 _ l hneI items).toS) s.heap.objs.size (by rw [hz1]; exact nin2 (Nat.ne_of_lt (Nat.lt_succ_self _)) (Nat.ne_of_gt hlS)) ks hit.1 hb hit.2 (items.size - 0) 0 _ (by omega) (Nat.zero_le _)
      ⟨⟨_, Heap.get?_push_size _ rfl, rfl, rfl⟩, (hl1.push _)⟩ ⟨0, Nat.le_refl 0, ks_new (Heap.get?_push_of_some _ hS)⟩ ?_
    intro s' c' hm hc' hS'
    exact ⟨rfl, fin (g0 := fun z => z) (by rw [hz1]) hm hc' hS'⟩

/-! ### sorted of such a set -/
open PySem.W in
theorem sorted_ks {β : Type} {a : Addr} {ks : List Key} {n : Nat} {Q : Value → Shared → Prop} {enc : β → PyData} (toK : β → Key) (ofK : Key → β) (hinv : ∀ k, k ∈ ks → toK (ofK k) = k) (henc : ∀ (k : Key) (u : Value) (h : Heap), k ∈ ks → keyIs k u = true → ∃ as, Reads h u (enc (ofK k)) as)
    (hal : ∀ b b', alike (enc b) (enc b') = true) (hso : ∀ b, enc b ≠ .none ∧ ∀ xs, enc b ≠ .tuple xs) (hde : ∀ b, (enc b).depth = 0) (R : KS w s.heap a ks n) (hh : A.handled = none) (hu : A.units + 8 < cLine)
    (hQ : ∀ s' p (out : List Value) (c : Nat) (bs : List β), (∀ b o, s.heap.get? b = some o → s'.heap.get? b = some o) → s'.gens = s.gens → s'.os = s.os → s.heap.objs.size ≤ p →
      s'.heap.get? p = some (seqObj "list" out.toArray c) → out.length ≤ sizeLine → EachIs (fun u b => keyIs (toK b) u = true) out (bs.mergeSort (dataLe false enc)) → (bs.map toK).Nodup → (∀ k, k ∈ bs.map toK ↔ k ∈ ks) → bs.length = n → Q (.ref p) s') :
    wpAny (model P w) A (call (.builtin "sorted") [.ref a]) Q E s := by
  obtain ⟨o, es, ep, t, ⟨ho, hex, hd⟩, ⟨g, nd, hm⟩, ⟨hb, hf, hn⟩, hr, hl⟩ := R
  refine Calls.call_function_entry kind_sorted plain_sorted entry_sorted (args_sorted1 _) ?_
  unfold Builtin.«sorted»
  refine wpAny_bind (m := checkCount "sorted" 1 1 _) (wpAny_pure ?_)
  refine wpAny_bind (collect_set (A := A.in1) hh ⟨o, ho, hex.1, hd⟩ hf hb hr hl fun s1 vs k1 hz g1 o1 pm => ?_)
  have hvl : vs.length = n := by rw [pm.length_eq, List.length_map, Array.length_toList]; exact hn
  have hvz : vs.length ≤ sizeLine := by rw [hvl, ← hn]; exact fits_of_scanBound hb
  have hv : ∀ v ∈ vs, keyIs (kOf (0, v)) v = true ∧ kOf (0, v) ∈ ks := fun v hv => by
    obtain ⟨e, he, q⟩ := List.mem_map.mp (pm.mem_iff.mp hv)
    subst q
    have z := (g e he).1
    have e1 : kOf (0, e.2) = kOf e := kOf_is z
    rw [e1]
    exact ⟨z, (hm _).2 (List.mem_map.mpr ⟨e, he, rfl⟩)⟩
  have pk : (vs.map fun v => kOf (0, v)).Perm (es.toList.map kOf) := by
    have q := pm.map fun v => kOf (0, v)
    rw [List.map_map] at q
    refine q.trans (List.Perm.of_eq (List.map_congr_left fun e he => kOf_is (g e he).1))
  have ek : ∀ {l : List Value}, (∀ v ∈ l, keyIs (kOf (0, v)) v = true ∧ kOf (0, v) ∈ ks) → EachIs (fun u b => keyIs (toK b) u = true) l (l.map fun v => ofK (kOf (0, v))) := by
    intro l
    induction l with
    | nil => exact fun _ => .nil
    | cons v l ih =>
      intro q
      refine .cons ?_ (ih fun u hu => q u (List.mem_cons_of_mem _ hu))
      rw [hinv _ (q v List.mem_cons_self).2]
      exact (q v List.mem_cons_self).1
  have er : ∀ (h : Heap) {l : List Value}, (∀ v ∈ l, keyIs (kOf (0, v)) v = true ∧ kOf (0, v) ∈ ks) → EachIs (fun u b => ∃ as, Reads h u (enc b) as) l (l.map fun v => ofK (kOf (0, v))) := by
    intro h l
    induction l with
    | nil => exact fun _ => .nil
    | cons v l ih => exact fun q => .cons (henc _ v h (q v List.mem_cons_self).2 (q v List.mem_cons_self).1) (ih fun u hu => q u (List.mem_cons_of_mem _ hu))
  refine wpAny_bind (wpAny_newList ?_ hvz)
  have hoL : (s1.heap.push (seqObj "list" vs.toArray 0)).get? s1.heap.objs.size = some (seqObj "list" vs.toArray 0) := Heap.get?_push_size _ rfl
  have er1 := er (sortingHeap (s1.heap.push (seqObj "list" vs.toArray 0)) s1.heap.objs.size vs) hv
  refine wpAny_bind (wpAny_holding (wpAny_call_entry slot_list_sort ⟨_, hoL, rfl⟩ entry_list_sort (list_sort_vals (s := { s1 with heap := s1.heap.push (seqObj "list" vs.toArray 0) }) hoL
    (SortsAt.data (s := { s1 with heap := sortingHeap (s1.heap.push (seqObj "list" vs.toArray 0)) s1.heap.objs.size vs }) (each_map (R := fun v d => ∃ as, Reads (sortingHeap (s1.heap.push (seqObj "list" vs.toArray 0)) s1.heap.objs.size vs) v d as) enc er1)
      (AllAlike.of hal) (Sortable.others hso) fun d hd => ?_) hvz ⟨_, rfl, ?_⟩) (args_list_sort _)))
  · obtain ⟨b, _, rfl⟩ := List.mem_map.mp hd
    rw [hde b]
    have z : A.in1.in1.units = A.units + 2 := by simp [Around.in1]
    omega
  · obtain ⟨c, hc⟩ := sortedHeap_at (vs := vs) (out := (sortVals (dataKind (sortingHeap (s1.heap.push (seqObj "list" vs.toArray 0)) s1.heap.objs.size vs) ((vs.map fun v => ofK (kOf (0, v))).map enc)) false vs vs).toArray) hoL
    refine wpAny_pure ⟨_, rfl, hQ _ s1.heap.objs.size _ c (vs.map fun v => ofK (kOf (0, v))) (fun b u e => ?_) g1 o1 hz hc ?_ (sortVals_data false (ek hv) er1 (AllAlike.of hal)) ?_ ?_ ?_⟩
    · have q := k1 b u e
      have hlt := Heap.lt_size q
      show (sortedHeap (s1.heap.push (seqObj "list" vs.toArray 0)) s1.heap.objs.size vs _).get? b = some u
      rw [sortedHeap_old (Nat.ne_of_lt hlt) (by rw [size_push']; exact Nat.lt_succ_of_lt hlt)]
      exact Heap.get?_push_of_some _ q
    · rw [sortVals_length false rfl]; exact hvz
    · rw [List.map_map]
      have q : vs.map (toK ∘ fun v => ofK (kOf (0, v))) = vs.map fun v => kOf (0, v) := List.map_congr_left fun v h => hinv _ (hv v h).2
      rw [q]
      exact pk.nodup_iff.mpr nd
    · intro k
      rw [List.map_map]
      have q : vs.map (toK ∘ fun v => ofK (kOf (0, v))) = vs.map fun v => kOf (0, v) := List.map_congr_left fun v h => hinv _ (hv v h).2
      rw [q, pk.mem_iff, ← hm k]
    · rw [List.length_map]; exact hvl
end
end TW
set_option Elab.async false
set_option linter.all false
set_option maxRecDepth 100000
set_option maxHeartbeats 4000000
namespace TW
open PySem PySem.Spec PyProof.Rows L2 PySem.W

/-- the set of the keys ks (n of them, each once) at a -/
def SKO (w : World) (a : Addr) (ks : List Key) (n : Nat) : HO := .ext fun h => KS w h a ks n
theorem sko_ok {w : World} {P : Program} {H : Hp} {h : Heap} {a : Addr} {ks : List Key} {n : Nat} (R : KS w h a ks n) : ObjOk P w H h a (SKO w a ks n) := by
  obtain ⟨o, es, ep, t, ⟨ho, r1⟩, r⟩ := id R
  exact ⟨R, ⟨o, ho⟩, fun h1 h2 q k => q.at k⟩
section
variable {X : Cx} {pins : List (Addr × Obj)} {σ : L2.St} {H : Hp} {s : Shared}
theorem sko_get {a : Addr} {ks : List Key} {n : Nat} (I : Inv X pins σ H s) (ha : H a = some (SKO X.w a ks n)) : KS X.w s.heap a ks n := (I.hok a _ ha).1
theorem ks_count {w : World} {h : Heap} {a : Addr} {ks : List Key} {n : Nat} (R : KS w h a ks n) : ∃ l : List Key, l.Nodup ∧ l.length = n ∧ ∀ k, k ∈ l ↔ k ∈ ks := by
  obtain ⟨o, es, ep, t, r1, ⟨g, nd, m⟩, ⟨_, _, hn⟩, _⟩ := R
  exact ⟨es.toList.map kOf, nd, by rw [List.length_map, Array.length_toList]; exact hn, fun k => (m k).symm⟩
theorem relV_key {k : Key} {u : Value} (r : RelV (kV k) u) : keyIs k u = true := by
  cases k with
  | inl i => obtain ⟨t, rfl⟩ := r; exact keyIs_int i t
  | inr x => obtain ⟨t, rfl⟩ := r; exact keyIs_str x t
theorem key_relV {k : Key} {u : Value} (h : keyIs k u = true) : RelV (kV k) u := by
  rcases keyIs_shape h with ⟨i, t, rfl, rfl⟩ | ⟨x, t, rfl, rfl⟩ <;> exact ⟨t, rfl⟩
theorem keysAre_of : ∀ {ks : List Key} {its : List Value}, Vals (ks.map kV) its → KeysAre its.toArray ks
  | [], _, r => by cases r; exact ⟨rfl, fun i v h => by simp at h⟩
  | k :: ks, _, r => by
    cases r with
    | @cons _ u _ us r1 r2 =>
      obtain ⟨h1, h2⟩ := keysAre_of r2
      refine ⟨by simpa using h1, fun i v h => ?_⟩
      cases i with
      | zero => exact ⟨k, rfl, by simp at h; exact h ▸ relV_key r1⟩
      | succ i => exact h2 i v (by simpa using h)
/-- set(xs) of a list or a tuple of ints and texts -/
def rSetK (K : PySem.W.Frag) (w : World) : List V → Hp → VK → Prop := fun vs H Q => ∃ (p : Addr) (ks : List Key), vs = [.ref p] ∧ (SqL K H p (ks.map kV) ∨ SqT K H p (ks.map kV)) ∧ ks.length ≤ 4090 ∧
  ∀ q n, H q = none → n ≤ ks.length → (∃ l : List Key, l.Nodup ∧ l.length = n ∧ ∀ k, k ∈ l ↔ k ∈ ks) → Q (.ref q) (upd H q (SKO w q ks n))
theorem cr_setK (K : PySem.W.Frag) (w : World) (hc : X.calm = true := by rfl) (hK : X.K = K := by rfl) (hw : X.w = w := by rfl) : CallR X (.type "set") (rSetK K w) := by
  subst hK hw
  intro pins s σ H vs us Q I r h
  obtain ⟨p, ks, rfl, hs, hl, q⟩ := h
  rw [Vals.ref1 r]
  have go : ∀ {its : List Value}, Vals (ks.map kV) its → (s.heap.IsTuple p its.toArray ∨ s.heap.IsList p its.toArray) → wpAny (model X.prog X.w) X.A (call (.type "set") [.ref p]) (EP X pins σ Q) X.xe s := fun {its} rv ht =>
    call_set_keys ks (I.ok.hd hc) ht (keysAre_of rv) (by show ks.length + 1 < 4096; omega) fun h' tk c hk hcn k => by
      have I1 : Inv X pins σ (upd H s.heap.objs.size (SKO X.w s.heap.objs.size ks c)) { s with heap := h', toks := tk } := I.laid k (Nat.le_refl _) (sko_ok hk)
      exact ⟨.ref _, _, I1, rfl, q _ c (I.hok.fresh (Nat.le_refl _)) hcn (ks_count hk)⟩
  rcases hs with hs | hs
  · obtain ⟨its, rv, pl, _⟩ := I.list hs
    exact go rv (.inr pl.isList)
  · obtain ⟨its, rv, pl, _⟩ := I.tuple hs
    exact go rv (.inl pl)
/-- len(s) -/
def rLenK (w : World) : List V → Hp → VK → Prop := fun vs H Q => ∃ (a : Addr) (ks : List Key) (n : Nat), vs = [.ref a] ∧ H a = some (SKO w a ks n) ∧ Q (.int n) H
theorem cr_lenK (w : World) (hw : X.w = w := by rfl) : CallR X (.builtin "len") (rLenK w) := by
  subst hw
  intro pins s σ H vs us Q I r h
  obtain ⟨a, ks, n, rfl, ha, q⟩ := h
  rw [Vals.ref1 r]
  obtain ⟨o, es, ep, t, ⟨ho, hex, hd⟩, _, ⟨hb, hf, hn⟩, _⟩ := sko_get I ha
  exact call_len_set ho hex hd hf (by have := hb; unfold scanBound at this; omega) ⟨.int n, H, I.tok _, ⟨_, by rw [hn]⟩, q⟩
/-- a text at or ahead of another -/
def sle (x y : Str) : Bool := decide (x.cps.toList ≤ y.cps.toList)
theorem sle_trans (x y z : Str) (h1 : sle x y = true) (h2 : sle y z = true) : sle x z = true := by
  unfold sle at *
  rw [decide_eq_true_eq] at *
  exact List.le_trans h1 h2
theorem sle_total (x y : Str) : (sle x y || sle y x) = true := by
  unfold sle
  rw [Bool.or_eq_true, decide_eq_true_eq, decide_eq_true_eq]
  exact List.le_total _ _
theorem sle_antisymm (x y : Str) (h1 : sle x y = true) (h2 : sle y x = true) : x = y := by
  unfold sle at *
  rw [decide_eq_true_eq] at *
  exact str_of_cps (List.le_antisymm h1 h2)
theorem nodup_of_map {α γ : Type} (f : α → γ) {l : List α} (h : (l.map f).Nodup) : l.Nodup := (List.pairwise_map.mp h).imp fun q e => q (by rw [e])
theorem mem_map_inl {ks : List Int} {k : Int} : (Sum.inl k : Key) ∈ ks.map Sum.inl ↔ k ∈ ks := by simp
theorem mem_map_inr {ks : List Str} {k : Str} : (Sum.inr k : Key) ∈ ks.map Sum.inr ↔ k ∈ ks := by simp
theorem vals_each {β : Type} {f : β → V} : ∀ {out : List Value} {bs : List β} (R : Value → β → Prop), (∀ u b, R u b → RelV (f b) u) → EachIs R out bs → Vals (bs.map f) out
  | _, _, _, _, .nil => .nil
  | _, _, R, g, .cons h t => .cons (g _ _ h) (vals_each R g t)
theorem laid_new {p : Addr} {o : HO} {s' : Shared} (I : Inv X pins σ H s) (k : ∀ b u, s.heap.get? b = some u → s'.heap.get? b = some u) (g : s'.gens = s.gens) (o1 : s'.os = s.os) (hp : s.heap.objs.size ≤ p) (ok : ObjOk X.prog X.w (upd H p o) s'.heap p o) :
    Inv X pins σ (upd H p o) s' ∧ H p = none := by
  have hn : H p = none := I.hok.fresh hp
  exact ⟨I.call' (ch := []) o1 (Un.laid k hp hn) (I.hok.laid k hp ok) (by rw [g]; exact I.bare) (fun _ z => nomatch z), hn⟩
/-- sorted(s), s a set of ints -/
def rSortedKI (w : World) : List V → Hp → VK → Prop := fun vs H Q => ∃ (a : Addr) (ks : List Int) (n : Nat), vs = [.ref a] ∧ H a = some (SKO w a (ks.map Sum.inl) n) ∧
  ∀ (ns : List Int) p, ns.Pairwise (· < ·) → (∀ k, k ∈ ns ↔ k ∈ ks) → ns.length = n → H p = none → Q (.ref p) (upd H p (.lst (ns.map V.int)))
theorem cr_sortedKI (w : World) (hu : X.A.units + 8 < cLine) (hc : X.calm = true := by rfl) (hw : X.w = w := by rfl) : CallR X (.builtin "sorted") (rSortedKI w) := by
  subst hw
  intro pins s σ H vs us Q I r h
  obtain ⟨a, ks, n, rfl, ha, q⟩ := h
  rw [Vals.ref1 r]
  have mem : ∀ {k : Key}, k ∈ ks.map Sum.inl → ∃ i, k = Sum.inl i := fun hk => by
    obtain ⟨i, _, e⟩ := List.mem_map.mp hk
    exact ⟨i, e.symm⟩
  refine sorted_ks (β := Int) (enc := fun i => .int i) Sum.inl (fun k => match k with | .inl i => i | .inr _ => 0) (fun k hk => ?_) (fun k u h hk hi => ?_) (fun _ _ => by simp [alike]) (fun b => ⟨by simp, fun xs => by simp⟩) (fun b => by simp [PyData.depth])
    (sko_get I ha) (I.ok.hd hc) hu fun s' p out c bs k1 g1 o1 hp hc hz e nd hm hn => ?_
  · obtain ⟨i, rfl⟩ := mem hk; rfl
  · obtain ⟨i, rfl⟩ := mem hk
    rcases keyIs_shape hi with ⟨j, t, ej, rfl⟩ | ⟨x, t, ej, rfl⟩
    · cases ej; exact ⟨[], .int _ _⟩
    · cases ej
  · have pm : (bs.mergeSort (dataLe false fun i => PyData.int i)).Perm bs := List.mergeSort_perm _ _
    have hnd : bs.Nodup := nodup_of_map _ nd
    have hv : Vals ((bs.mergeSort (dataLe false fun i => PyData.int i)).map V.int) out := vals_each _ (fun u b hb => key_relV (k := Sum.inl b) hb) e
    have pw : (bs.mergeSort (dataLe false fun i => PyData.int i)).Pairwise (· < ·) := by
      have z := List.pairwise_mergeSort (le := fun a b : Int => decide (a ≤ b)) (fun a b c h1 h2 => by simp only [decide_eq_true_eq] at *; omega) (fun a b => by simp only [Bool.or_eq_true, decide_eq_true_eq]; omega) bs
      rw [← dataLe_int (fun b => b)] at z
      refine lt_of_le_nodup _ ?_ (pm.nodup_iff.mpr hnd)
      rw [dataLe_int (fun b => b)] at z ⊢
      exact z.imp fun h => by simpa using h
    obtain ⟨I2, hn'⟩ := laid_new I (o := .lst ((bs.mergeSort (dataLe false fun i => PyData.int i)).map V.int)) k1 g1 o1 hp ⟨by rw [hv.length]; exact hz, out, c, hv, hc⟩
    refine ⟨.ref p, _, I2, rfl, q _ p pw (fun k => ?_) (by rw [pm.length_eq]; exact hn) hn'⟩
    rw [pm.mem_iff]
    have z := hm (Sum.inl k)
    rw [mem_map_inl, mem_map_inl] at z
    exact z
/-- sorted(s), s a set of texts -/
def rSortedKS (w : World) : List V → Hp → VK → Prop := fun vs H Q => ∃ (a : Addr) (ks : List Str) (n : Nat), vs = [.ref a] ∧ H a = some (SKO w a (ks.map Sum.inr) n) ∧
  ∀ (ns : List Str) p, ns.Pairwise (fun x y => sle x y = true) → ns.Nodup → (∀ k, k ∈ ns ↔ k ∈ ks) → ns.length = n → H p = none → Q (.ref p) (upd H p (.lst (ns.map V.str)))
theorem cr_sortedKS (w : World) (hu : X.A.units + 8 < cLine) (hc : X.calm = true := by rfl) (hw : X.w = w := by rfl) : CallR X (.builtin "sorted") (rSortedKS w) := by
  subst hw
  intro pins s σ H vs us Q I r h
  obtain ⟨a, ks, n, rfl, ha, q⟩ := h
  rw [Vals.ref1 r]
  have mem : ∀ {k : Key}, k ∈ ks.map Sum.inr → ∃ i, k = Sum.inr i := fun hk => by
    obtain ⟨i, _, e⟩ := List.mem_map.mp hk
    exact ⟨i, e.symm⟩
  refine sorted_ks (β := Str) (enc := fun i => .str i) Sum.inr (fun k => match k with | .inr i => i | .inl _ => Str.empty) (fun k hk => ?_) (fun k u h hk hi => ?_) (fun _ _ => by simp [alike]) (fun b => ⟨by simp, fun xs => by simp⟩) (fun b => by simp [PyData.depth])
    (sko_get I ha) (I.ok.hd hc) hu fun s' p out c bs k1 g1 o1 hp hc hz e nd hm hn => ?_
  · obtain ⟨i, rfl⟩ := mem hk; rfl
  · obtain ⟨i, rfl⟩ := mem hk
    rcases keyIs_shape hi with ⟨j, t, ej, rfl⟩ | ⟨x, t, ej, rfl⟩
    · cases ej
    · cases ej; exact ⟨[], .str _ _⟩
  · have pm : (bs.mergeSort (dataLe false fun i => PyData.str i)).Perm bs := List.mergeSort_perm _ _
    have hnd : bs.Nodup := nodup_of_map _ nd
    have hv : Vals ((bs.mergeSort (dataLe false fun i => PyData.str i)).map V.str) out := vals_each _ (fun u b hb => key_relV (k := Sum.inr b) hb) e
    have pw : (bs.mergeSort (dataLe false fun i => PyData.str i)).Pairwise (fun x y => sle x y = true) := by
      rw [dataLe_str (fun b => b)]
      exact List.pairwise_mergeSort (le := sle) sle_trans sle_total bs
    obtain ⟨I2, hn'⟩ := laid_new I (o := .lst ((bs.mergeSort (dataLe false fun i => PyData.str i)).map V.str)) k1 g1 o1 hp ⟨by rw [hv.length]; exact hz, out, c, hv, hc⟩
    refine ⟨.ref p, _, I2, rfl, q _ p pw (pm.nodup_iff.mpr hnd) (fun k => ?_) (by rw [pm.length_eq]; exact hn) hn'⟩
    rw [pm.mem_iff]
    have z := hm (Sum.inr k)
    rw [mem_map_inr, mem_map_inr] at z
    exact z

/-! ### sorted of a list of data -/
theorem dpAll_map {K : PySem.W.Frag} {H : Hp} {β : Type} {enc : β → PyData} : ∀ {out : List Value} {bs : List β}, EachIs (fun u b => ∃ v, L2.RelV v u ∧ Dp K H v (enc b)) out bs → ∃ ys, Vals ys out ∧ DpAll K H ys (bs.map enc)
  | _, _, .nil => ⟨[], .nil, .nil⟩
  | _, _, .cons ⟨v, r, d⟩ t => by
    obtain ⟨ys, h1, h2⟩ := dpAll_map t
    exact ⟨v :: ys, .cons r h1, .cons d h2⟩
theorem each_dp {K : PySem.W.Frag} {H : Hp} {β : Type} {enc : β → PyData} : ∀ {bs : List β} {xs : List V} {us : List Value}, DpAll K H xs (bs.map enc) → Vals xs us → EachIs (fun u b => ∃ v, L2.RelV v u ∧ Dp K H v (enc b)) us bs
  | [], _, _, h, r => by
    cases h
    cases r
    exact .nil
  | b :: bs, _, _, h, r => by
    cases h with
    | cons h1 h2 =>
      cases r with
      | cons r1 r2 => exact .cons ⟨_, r1, h1⟩ (each_dp h2 r2)
end
end TW
set_option Elab.async false
set_option linter.all false
set_option maxRecDepth 100000
set_option maxHeartbeats 4000000
/-! {k: v for a in xs if .. for b in ys if ..}, keys ints and texts -/
namespace TW
open PySem PySem.Spec PyProof.Rows L2

abbrev DCX (kx vx t0 i0 : Expr) (f0 : List Expr) (t1 i1 : Expr) (f1 : List Expr) (scope : Scope) (pos : Pos) : Expr := .DictComp kx vx [⟨t0, i0, f0, 0⟩, ⟨t1, i1, f1, 0⟩] scope pos
section
variable {prog : Program} {w : World} {A : Around} {R : Result → Shared → Prop} {s : Shared} {kx vx t0 i0 t1 i1 : Expr} {f0 f1 : List Expr} {scope : Scope} {pos : Pos} {it : Value} {D : Addr} {env : Env}
/-- the tests of a clause -/
abbrev tst (fs : List Expr) (env : Env) : Sem Bool := forIn fs true fun c r => if r = true then do let ok ← isTrue c env (eval c env); pure (ForInStep.yield ok) else pure (ForInStep.yield r)
/-- a turn of a clause's loop: the next item stored, tested; then go -/
abbrev turnW (prog : Program) (w : World) (A : Around) (t : Expr) (fs : List Expr) (it : Value) (env : Env) (fin : Shared → Prop) (go : Shared → Prop) (skip : Shared → Prop) (R : Result → Shared → Prop) (s : Shared) : Prop :=
  wpAny (model prog w) A (pyNext it) (fun r z => match r with
    | none => fin z
    | some v => wpAny (model prog w) A (letOwnedTupleGo t it v) (fun _ z => wpAny (model prog w) A (assign t env v) (fun _ z => wpAny (model prog w) A (tst fs env) (fun ok z => if ok = true then go z else skip z)
        (notedBy (model prog w) A env fun e z => R (.error e) z) z) (notedBy (model prog w) A env fun e z => R (.error e) z) z) (notedBy (model prog w) A env fun e z => R (.error e) z) z) (notedBy (model prog w) A env fun e z => R (.error e) z) s
theorem turnD_out : compTurn (DCX kx vx t0 i0 f0 t1 i1 f1 scope pos) 0 it (.ref D) env = (do
      standAt i0.pos
      match ← pyNext it with
      | none => pure (.done .next)
      | some v => do
        letOwnedTupleGo t0 it v
        assign t0 env v
        let ok ← tst f0 env
        if ok = true then do
          let x ← eval i1 env
          standAt i1.pos
          let x ← foldedSetIterable i1 env x
          let _ ← runOwn (.compStart (DCX kx vx t0 i0 f0 t1 i1 f1 scope pos) 1 (← holding [x] (pyIter x)) (.ref D) env) env
          again (.compLoop (DCX kx vx t0 i0 f0 t1 i1 f1 scope pos) 0 it (.ref D) env)
        else again (.compLoop (DCX kx vx t0 i0 f0 t1 i1 f1 scope pos) 0 it (.ref D) env)) := by rfl
theorem turnD_in : compTurn (DCX kx vx t0 i0 f0 t1 i1 f1 scope pos) 1 it (.ref D) env = (do
      standAt i1.pos
      match ← pyNext it with
      | none => pure (.done .next)
      | some v => do
        letOwnedTupleGo t1 it v
        assign t1 env v
        let ok ← tst f1 env
        if ok = true then do
          (do let kv ← eval kx env
              let vv ← holding [kv] (eval vx env)
              standAt { kx.pos with endLine := vx.pos.endLine, endCol := vx.pos.endCol }
              holding [kv, vv] (dictSet D kv vv))
          again (.compLoop (DCX kx vx t0 i0 f0 t1 i1 f1 scope pos) 1 it (.ref D) env)
        else again (.compLoop (DCX kx vx t0 i0 f0 t1 i1 f1 scope pos) 1 it (.ref D) env)) := by rfl
theorem loopD_out (hs : ∀ x, foldedSetIterable i1 env x = pure x) (I : Nat → Shared → Prop)
    (turn : ∀ n s, I n s → turnW prog w A t0 f0 it env (R (.ok .next)) (fun z => wpAny (model prog w) A (eval i1 env) (fun x z => wpAny (model prog w) A (pyIter x) (fun it1 z =>
        codeAny (model prog w) A (.compStart (DCX kx vx t0 i0 f0 t1 i1 f1 scope pos) 1 it1 (.ref D) env) (fun r z => match r with
          | .ok _ => ∃ m, m < n ∧ I m z
          | .error _ => False) z) (notedBy (model prog w) A env fun e z => R (.error e) z) z) (notedBy (model prog w) A env fun e z => R (.error e) z) z) (fun z => ∃ m, m < n ∧ I m z) R s)
    (n : Nat) (h : I n s) : codeAny (model prog w) A (.compLoop (DCX kx vx t0 i0 f0 t1 i1 f1 scope pos) 0 it (.ref D) env) R s := by
  refine codeAny_loop rfl I (fun n s hI => ?_) n h
  show wpAny _ A ((compTurn (DCX kx vx t0 i0 f0 t1 i1 f1 scope pos) 0 it (.ref D) env).onRaise (fun x => do noteFrame x env; theTreesLotGoes x)) _ _ s
  refine wpAny_noted ?_
  rw [turnD_out]
  refine wpAny_bind (wpAny_standAt (wpAny_bind (thn (turn n s hI) fun r z hz => ?_)))
  cases r with
  | none => exact wpAny_pure hz
  | some v =>
    refine wpAny_bind (thn hz fun _ z hz => wpAny_bind (thn hz fun _ z hz => wpAny_bind (thn hz fun ok z hz => ?_)))
    cases ok with
    | false => exact wpAny_pure ⟨rfl, hz⟩
    | true =>
      refine wpAny_bind (thn hz fun x z hz => wpAny_bind (wpAny_standAt (wpAny_bind (wpAny_of_eq (hs x) (wpAny_bind (wpAny_holding (thn hz fun it1 z hz => wpAny_bind (wpAny_runOwn ?_))))))))
      rw [Around.mark_none]
      refine codeAny_mono hz fun r z hr => ?_
      cases r with
      | ok f => first | exact wpAny_pure ⟨rfl, hr⟩ | exact wpAny_bind (wpAny_pure (wpAny_pure ⟨rfl, hr⟩))
      | error e => exact hr.elim
theorem loopD_in (I : Nat → Shared → Prop)
    (turn : ∀ n s, I n s → turnW prog w A t1 f1 it env (R (.ok .next)) (fun z => wpAny (model prog w) A (eval kx env) (fun kv z => wpAny (model prog w) A (eval vx env) (fun vv z =>
        wpAny (model prog w) A (dictSet D kv vv) (fun _ z => ∃ m, m < n ∧ I m z) (notedBy (model prog w) A env fun e z => R (.error e) z) z) (notedBy (model prog w) A env fun e z => R (.error e) z) z) (notedBy (model prog w) A env fun e z => R (.error e) z) z) (fun z => ∃ m, m < n ∧ I m z) R s)
    (n : Nat) (h : I n s) : codeAny (model prog w) A (.compLoop (DCX kx vx t0 i0 f0 t1 i1 f1 scope pos) 1 it (.ref D) env) R s := by
  refine codeAny_loop rfl I (fun n s hI => ?_) n h
  show wpAny _ A ((compTurn (DCX kx vx t0 i0 f0 t1 i1 f1 scope pos) 1 it (.ref D) env).onRaise (fun x => do noteFrame x env; theTreesLotGoes x)) _ _ s
  refine wpAny_noted ?_
  rw [turnD_in]
  refine wpAny_bind (wpAny_standAt (wpAny_bind (thn (turn n s hI) fun r z hz => ?_)))
  cases r with
  | none => exact wpAny_pure hz
  | some v =>
    refine wpAny_bind (thn hz fun _ z hz => wpAny_bind (thn hz fun _ z hz => wpAny_bind (thn hz fun ok z hz => ?_)))
    cases ok with
    | false => exact wpAny_pure ⟨rfl, hz⟩
    | true => exact wpAny_bind (wpAny_bind (thn hz fun kv z hz => wpAny_bind (wpAny_holding (thn hz fun vv z hz => wpAny_bind (wpAny_standAt (wpAny_holding (thn hz fun _ z hz => wpAny_pure ⟨rfl, hz⟩)))))))
theorem startD1 (h0 : codeAny (model prog w) A (.compLoop (DCX kx vx t0 i0 f0 t1 i1 f1 scope pos) 1 it (.ref D) env) R s)
    (h : wpAny (model prog w) A (pyIter it) (fun it' z => codeAny (model prog w) A (.compLoop (DCX kx vx t0 i0 f0 t1 i1 f1 scope pos) 1 it' (.ref D) env) R z) (notedBy (model prog w) A env fun x z => R (.error x) z) s) :
    codeAny (model prog w) A (.compStart (DCX kx vx t0 i0 f0 t1 i1 f1 scope pos) 1 it (.ref D) env) R s := by
  refine codeAny_of_tree ?_
  show wpAny _ _ ((compStart (DCX kx vx t0 i0 f0 t1 i1 f1 scope pos) 1 it (.ref D) env).onRaise (fun x => do noteFrame x env; standAt theWindowsPlace)) _ _ s
  refine wpAny_notedAt ?_
  unfold compStart
  show wpAny _ _ (ask >>= _) _ _ s
  refine wpAny_bind (wpAny_askSetting (wpAny_ite ?_))
  split
  · first
      | exact wpAny_bind (wpAny_pure (wpAny_pure (And.intro rfl h0)))
      | exact wpAny_pure (And.intro rfl h0)
  · first
      | exact wpAny_bind (wpAny_rule (wpAny_bind (wpAny_standAt (wpAny_bind (thn h fun it' z hz => wpAny_pure (And.intro rfl hz))))))
      | (refine wpAny_bind (wpAny_rule ?_); show wpAny _ _ (standAt i1.pos >>= _) _ _ s; exact wpAny_bind (wpAny_standAt (wpAny_bind (thn h fun it' z hz => wpAny_pure (And.intro rfl hz)))))
end
end TW
set_option Elab.async false
set_option linter.all false
set_option maxRecDepth 100000
set_option maxHeartbeats 4000000
namespace TW
open PySem PySem.Spec PyProof.Rows L2
section
variable {X : Cx}
/-- one turn's reading of a clause: the item stored, tested -/
abbrev turnR (g : TG) (tt : TT) (vs : List Nat) (σ : L2.St) (x : V) (H' : Hp) (yes : L2.St → Hp → Prop) (no : Hp → Prop) : Prop :=
  g x (wipe σ vs) H' fun σ2 H2 => wipe σ2 vs = wipe σ vs ∧ tt σ2 H2 fun b H3 => if b = true then yes σ2 H3 else no H3
/-- a loop by a walk J: W says what holds at the turns -/
abbrev loopR (J : It) (W : Nat → Nat → Hp → Prop) (stop : Hp → Prop) (turn : V → Hp → (Hp → Prop) → Prop) : Prop :=
  ∀ i m H, W i m H → (J.stop i H ∧ stop H) ∨ (J.go i H ∧ ∃ Nx : Hp → Prop, (∀ H', Nx H' → ∃ m', m' < m ∧ W (i + 1) m' H') ∧ ∀ x H', J.yld i H x H' → turn x H' Nx)
def tDc2 (wi : TI) (g : TG) (tt : TT) (wi1 : TI) (g1 : TG) (tt1 : TT) (tk tv : TE) (vs vs1 : List Nat) : TE := fun σ H Q => wi σ H fun J H1 => ∀ D, H1 D = none → ∃ W : Nat → Nat → Hp → Prop, (∃ m, W 0 m (upd H1 D (.dK []))) ∧
  loopR J W (fun H => Q (.ref D) H) fun x H' Nx => turnR g tt vs σ x H' (fun σ2 H3 => wi1 σ2 H3 fun J1 H4 => ∃ W1 : Nat → Nat → Hp → Prop, (∃ m, W1 0 m H4) ∧
    loopR J1 W1 Nx fun x H' Nx1 => turnR g1 tt1 vs1 σ2 x H' (fun σ3 H6 => tk σ3 H6 fun y H7 => tv σ3 H7 fun z H8 => ∃ kvs k, y = kV k ∧ H8 D = some (.dK kvs) ∧ kvs.length < sizeLine ∧ Nx1 (upd H8 D (.dK (putK kvs k z)))) Nx1) Nx
/-- what the parts of such a display are, in its block -/
structure Blk2 (X : Cx) (kx vx t0 : Expr) (f0 : List Expr) (t1 i1 : Expr) (f1 : List Expr) (scope : Scope) (g : TG) (tt : TT) (wi1 : TI) (g1 : TG) (tt1 : TT) (tk tv : TE) : Prop where
  pg : ∀ (s : Shared) (H : Hp) (C : Addr) (cl : List (Str × Addr)) (fp : List Addr), PG (X.blk s H scope (compEnvC scope cl C X.env) fp) t0 g
  pt : ∀ (s : Shared) (H : Hp) (C : Addr) (cl : List (Str × Addr)) (fp : List Addr), PTs (X.blk s H scope (compEnvC scope cl C X.env) fp) f0 tt
  pi : ∀ (s : Shared) (H : Hp) (C : Addr) (cl : List (Str × Addr)) (fp : List Addr), PI (X.blk s H scope (compEnvC scope cl C X.env) fp) t1 i1 wi1
  pg1 : ∀ (s : Shared) (H : Hp) (C : Addr) (cl : List (Str × Addr)) (fp : List Addr), PG (X.blk s H scope (compEnvC scope cl C X.env) fp) t1 g1
  pt1 : ∀ (s : Shared) (H : Hp) (C : Addr) (cl : List (Str × Addr)) (fp : List Addr), PTs (X.blk s H scope (compEnvC scope cl C X.env) fp) f1 tt1
  pk : ∀ (s : Shared) (H : Hp) (C : Addr) (cl : List (Str × Addr)) (fp : List Addr), PE (X.blk s H scope (compEnvC scope cl C X.env) fp) kx tk
  pv : ∀ (s : Shared) (H : Hp) (C : Addr) (cl : List (Str × Addr)) (fp : List Addr), PE (X.blk s H scope (compEnvC scope cl C X.env) fp) vx tv
theorem dc2_core {pins : List (Addr × Obj)} {s : Shared} {σ : L2.St} {H : Hp} {Q : VK} {pos' : Pos} {use : Option (Value → Sem Unit)} {Qf : Value → Shared → Prop} {kx vx t0 i0 t1 i1 : Expr} {f0 f1 : List Expr} {scope : Scope} {own : List (Str × Nat)} {vs1 : List Nat} {pos : Pos} {wi wi1 : TI} {g g1 : TG} {tt tt1 : TT} {tk tv : TE} (hc : X.calm = true) (hN : X.N.Nodup) (I : Inv X pins σ H s) (hi : PI X t0 i0 wi) (ok : BlkOk X.N X.env.scope scope own) (hv : ∀ i ∈ vs1, i ∈ own.map (·.2))
    (B : Blk2 X kx vx t0 f0 t1 i1 f1 scope g tt wi1 g1 tt1 tk tv) (hs : ∀ x, foldedSetIterable i0 X.env x = pure x) (hs1 : ∀ env x, foldedSetIterable i1 env x = pure x) (h : tDc2 wi g tt wi1 g1 tt1 tk tv (own.map (·.2)) vs1 σ H Q)
    (hRR : ∀ D C s' m H', Inv X pins σ H' s' → Q (.ref D) H' → s'.heap.Ns C m → FpOk X pins H' C → compPost (model X.prog X.w) X.A X.xe use Qf (.ref D) C (.ok .next) s') :
    wpAny (model X.prog X.w) X.A (comprehension (.DictComp kx vx [⟨t0, i0, f0, 0⟩, ⟨t1, i1, f1, 0⟩] scope pos) scope X.env pos' newDict false (eval i0 X.env) use) Qf X.xe s := by
  have hfree : ∀ y ∈ scope.names, y.2 = .free → ∃ c, X.env.cells.lookup y.1 = some c := fun y hy e => (ok.free y hy e).elim (fun k => I.ok.has _ (.inl k)) fun k => I.ok.has _ (.inr k)
  refine wpAny_comprehension_free (use := use) rfl hs (closure_ok hfree) ok.kind (fun y hy e => by rw [ok.uniq y hy, e]) (thn (hi.run pins s σ H _ I h) fun xv s1 hx => thn hx fun itv s2 h2 => ?_)
  obtain ⟨it, fp, tn, J, H2, rfl, I2, T, st2, f2, q⟩ := h2
  refine wpAny_newObj_type (newEnv_comp ?_)
  generalize hD : s2.heap.objs.size = D
  have hDn : H2 D = none := I2.hok.fresh (Nat.le_of_eq hD)
  obtain ⟨W, ⟨m0, w0⟩, turn⟩ := q D hDn
  generalize hs3 : ({ s2 with heap := s2.heap.push { cls := .type "dict", data := .dict #[] } } : Shared) = s3
  have h3 : s3.heap = s2.heap.push { cls := .type "dict", data := .dict #[] } := by rw [← hs3]
  have I3 : Inv X pins σ (upd H2 D (.dK [])) s3 := by
    rw [← hs3, ← hD]
    exact I2.laid (t' := s2.toks) (fun b o e => Heap.get?_push_of_some _ e) (Nat.le_refl _) (dk_empty s2.heap I2.big)
  have f3 : ∀ b ∈ fp, FpOk X pins (upd H2 D (.dK [])) b ∧ b < s3.heap.objs.size := fun b hb => by
    obtain ⟨o, e, _⟩ := T.obj _ _ st2 b hb
    have lt := Heap.lt_size e
    refine ⟨⟨?_, (f2 b hb).2⟩, by rw [h3, Heap.size_push]; exact Nat.lt_succ_of_lt lt⟩
    rw [upd_ne (hD ▸ Nat.ne_of_lt lt)]
    exact (f2 b hb).1
  have st3 : tn 0 s3.heap := T.keep _ _ _ st2 fun b _ o e => h3 ▸ Heap.get?_push_of_some _ e
  have I4 := block_start I3 ok hN f3
  generalize hcl : cellsFrom (s3.heap.objs.size + 1) scope.names (cloFrom X.env.cells scope.names []) = cl at I4 ⊢
  have pg := B.pg s3 (upd H2 D (.dK [])) s3.heap.objs.size cl fp
  have pt := B.pt s3 (upd H2 D (.dK [])) s3.heap.objs.size cl fp
  have pI := B.pi s3 (upd H2 D (.dK [])) s3.heap.objs.size cl fp
  have pg1 := B.pg1 s3 (upd H2 D (.dK [])) s3.heap.objs.size cl fp
  have pt1 := B.pt1 s3 (upd H2 D (.dK [])) s3.heap.objs.size cl fp
  have pk := B.pk s3 (upd H2 D (.dK [])) s3.heap.objs.size cl fp
  have pv := B.pv s3 (upd H2 D (.dK [])) s3.heap.objs.size cl fp
  show codeAny _ _ (.compStart (DCX kx vx t0 i0 f0 t1 i1 f1 scope pos) 0 (.ref it) (.ref D) (compEnvC scope cl s3.heap.objs.size X.env)) (compPost (model X.prog X.w) X.A X.xe use Qf (.ref D) s3.heap.objs.size) { s3 with heap := pushCells (s3.heap.push { cls := .type "dict", data := .dict #[] }) scope.names }
  have nfp : ∀ b ∈ fp, (upd H2 D (.dK [])) b = none := fun b hb => (f3 b hb).1.1
  generalize hce : compEnvC scope cl s3.heap.objs.size X.env = ce at I4 pg pt pI pg1 pt1 pk pv ⊢
  have cL : ce.locals = s3.heap.objs.size := by rw [← hce]; rfl
  generalize hH3 : upd H2 D (.dK []) = H3 at I3 I4 pg pt pI pg1 pt1 pk pv w0 nfp f3
  generalize hs4 : ({ s3 with heap := pushCells (s3.heap.push { cls := .type "dict", data := .dict #[] }) scope.names } : Shared) = s4 at I4 ⊢
  have st4 : tn 0 s4.heap := T.keep _ _ _ st3 fun b _ o e => hs4 ▸ pushCells_keeps _ _ _ _ (Heap.get?_push_of_some _ e)
  have stat : ∀ {σ' : L2.St} {H' : Hp} {s' : Shared}, Inv (X.blk s3 H3 scope ce fp) [] σ' H' s' → (∀ b ∈ fp, H' b = none) → ∀ b ∈ fp, FpOk (X.blk s3 H3 scope ce fp) [] H' b := fun {σ' H' s'} I' hn b hb =>
    ⟨hn b hb, (I'.ok.exf b hb).1, I'.ok.exfs b hb, .inl hb, fun x c e => (I'.ok.exf b hb).2 x c e, fun p hp => absurd (show p ∈ ([] : List (Addr × Obj)) ++ [] from hp) (by simp)⟩
  have loop : codeAny (model X.prog X.w) X.A (.compLoop (DCX kx vx t0 i0 f0 t1 i1 f1 scope pos) 0 (.ref it) (.ref D) ce) (compPost (model X.prog X.w) X.A X.xe use Qf (.ref D) s3.heap.objs.size) s4 := by
    refine loopD_out (hs1 ce) (fun n s' => ∃ i H', Inv (X.blk s3 H3 scope ce fp) [] (wipe σ (own.map (·.2))) H' s' ∧ tn i s'.heap ∧ (∀ b ∈ fp, H' b = none) ∧ W i n H') ?_ m0 ⟨0, H3, I4, st4, nfp, w0⟩
    rintro n s5 ⟨i, H5, I5, st5, n5, w5⟩
    rcases turn i n H5 w5 with ⟨stop, qq⟩ | ⟨go, Nx, hNx, step⟩
    · refine thnF (T.done (X.blk s3 H3 scope ce fp) rfl rfl rfl hc i [] s5 _ H5 (fun _ _ => False) I5 (stat I5 n5) st5 stop) fun r s6 ⟨hr, I6⟩ => ?_
      subst hr
      have I7 : Inv X pins σ H5 s6 := I3.call' (ch := fp) I6.os I6.base I6.hok I6.bare fun b hb => by
        obtain ⟨x1, x2, x3, x4, x5, x6⟩ := (f3 b hb).1
        exact ⟨x4, x2, x5, x6⟩
      have nC : H5 s3.heap.objs.size = none := cL ▸ (show H5 ce.locals = none from I6.free)
      obtain ⟨m, hn, _⟩ := I6.loc
      have hn : s6.heap.Ns ce.locals m := hn
      rw [cL] at hn
      exact hRR D _ s6 m H5 I7 qq hn (I3.fpOk (Nat.le_refl _) nC)
    · refine thnF (T.item (X.blk s3 H3 scope ce fp) rfl rfl rfl hc i [] s5 _ H5 (fun _ _ => False) I5 (stat I5 n5) st5 go) fun r s6 ⟨u, hr, h6⟩ => ?_
      subst hr
      refine thnF h6 fun _ s7 ⟨x, H7, I7, r7, y7, st7, n7⟩ => ?_
      refine thnF (pg.run _ s7 _ H7 x u _ (I7.pinned (stat I7 n7) (T.obj _ _ st7)) r7 (step x H7 y7)) fun _ s8 ⟨σ8, H8, I8, hw8, q8⟩ => ?_
      refine thnF (pt.run _ s8 σ8 H8 _ I8 q8) fun b s9 ⟨H9, I9, q9⟩ => ?_
      have fin : ∀ {σ9 : L2.St} {s' : Shared} {H' : Hp}, Inv (X.blk s3 H3 scope ce fp) ([] ++ pinsAt fp s7.heap) σ9 H' s' → (wipe σ (own.map (·.2))).length = σ9.length → (∀ (j : Nat) v, (wipe σ (own.map (·.2)))[j]? = some (some v) → σ9[j]? = some (some v)) → Nx H' →
          ∃ m, m < n ∧ ∃ i H', Inv (X.blk s3 H3 scope ce fp) [] (wipe σ (own.map (·.2))) H' s' ∧ tn i s'.heap ∧ (∀ b ∈ fp, H' b = none) ∧ W i m H' := fun {σ9 s' H'} I' hl hk nx => by
        obtain ⟨m', hm, w'⟩ := hNx H' nx
        have pin' : ∀ b ∈ fp, ∀ o, s7.heap.get? b = some o → s'.heap.get? b = some o ∧ H' b = none := fun b hb o e => by
          have z := I'.pin (b, o) (List.mem_append_right _ (List.mem_append_right _ (mem_pinsAt hb e)))
          exact ⟨z.1, z.2.1⟩
        refine ⟨m', hm, i + 1, H', (I'.unpinned (pins := [])).weak hl hk, T.keep _ _ _ st7 fun b hb o e => (pin' b hb o e).1, fun b hb => ?_, w'⟩
        obtain ⟨o, e, _⟩ := T.obj _ _ st7 b hb
        exact (pin' b hb o e).2
      have l8 : (wipe σ (own.map (·.2))).length = σ8.length := by rw [← hw8, wipe_length]
      have k8 : ∀ (j : Nat) v, (wipe σ (own.map (·.2)))[j]? = some (some v) → σ8[j]? = some (some v) := fun j v e => (wipe_some (vs := own.map (·.2)) (hw8 ▸ e)).1
      have k9 : ∀ (j : Nat) v, (wipe σ (own.map (·.2)))[j]? = some (some v) → (wipe σ8 vs1)[j]? = some (some v) := fun j v e => by
        obtain ⟨e1, e2⟩ := wipe_some (vs := own.map (·.2)) (hw8 ▸ e)
        rw [wipe_out fun z => e2 (hv j z)]
        exact e1
      cases b with
      | false =>
        simp only [Bool.false_eq_true, if_false] at q9 ⊢
        exact fin I9 l8 k8 q9
      | true =>
        simp only [if_true] at q9 ⊢
        refine thnF (pI.run _ s9 σ8 H9 _ I9 q9) fun xv s10 hx => thnF hx fun itv s11 h11 => ?_
        obtain ⟨it1, fp1, tn1, J1, H11, rfl, I11, T1, st11, f11, W1, ⟨m1, w1⟩, turn1⟩ := h11
        have stat1 : ∀ {H' : Hp}, (∀ b ∈ fp1, H' b = none) → ∀ b ∈ fp1, FpOk (X.blk s3 H3 scope ce fp) ([] ++ pinsAt fp s7.heap) H' b := fun hn b hb => ⟨hn b hb, (f11 b hb).2⟩
        have loop1 : codeAny (model X.prog X.w) X.A (.compLoop (DCX kx vx t0 i0 f0 t1 i1 f1 scope pos) 1 (.ref it1) (.ref D) ce)
            (fun r s' => match r with
              | .ok _ => ∃ m, m < n ∧ ∃ i H', Inv (X.blk s3 H3 scope ce fp) [] (wipe σ (own.map (·.2))) H' s' ∧ tn i s'.heap ∧ (∀ b ∈ fp, H' b = none) ∧ W i m H'
              | .error _ => False) s11 := by
          refine loopD_in (fun k s' => ∃ j H', Inv (X.blk s3 H3 scope ce fp) ([] ++ pinsAt fp s7.heap) (wipe σ8 vs1) H' s' ∧ tn1 j s'.heap ∧ (∀ b ∈ fp1, H' b = none) ∧ W1 j k H') ?_ m1
            ⟨0, H11, I11.weak (wipe_length _ _) (fun j v e => (wipe_some e).1), st11, fun b hb => (f11 b hb).1, w1⟩
          rintro k s12 ⟨j, H12, I12, st12, n12, w12⟩
          rcases turn1 j k H12 w12 with ⟨stop1, nx1⟩ | ⟨go1, Nx1, hNx1, step1⟩
          · refine thnF (T1.done (X.blk s3 H3 scope ce fp) rfl rfl rfl hc j _ s12 (wipe σ8 vs1) H12 (fun _ _ => False) I12 (stat1 n12) st12 stop1) fun r s13 ⟨hr, I13⟩ => ?_
            subst hr
            exact fin I13 (l8.trans (wipe_length σ8 vs1).symm) k9 nx1
          · refine thnF (T1.item (X.blk s3 H3 scope ce fp) rfl rfl rfl hc j _ s12 (wipe σ8 vs1) H12 (fun _ _ => False) I12 (stat1 n12) st12 go1) fun r s13 ⟨u1, hr, h13⟩ => ?_
            subst hr
            refine thnF h13 fun _ s14 ⟨x1, H14, I14, r14, y14, st14, n14⟩ => ?_
            refine thnF (pg1.run _ s14 (wipe σ8 vs1) H14 x1 u1 _ (I14.pinned (stat1 n14) (T1.obj _ _ st14)) r14 (step1 x1 H14 y14)) fun _ s15 ⟨σ15, H15, I15, hw15, q15⟩ => ?_
            refine thnF (pt1.run _ s15 σ15 H15 _ I15 q15) fun b1 s16 ⟨H16, I16, q16⟩ => ?_
            have fin1 : ∀ {s' : Shared} {H' : Hp}, Inv (X.blk s3 H3 scope ce fp) (([] ++ pinsAt fp s7.heap) ++ pinsAt fp1 s14.heap) σ15 H' s' → Nx1 H' →
                ∃ m, m < k ∧ ∃ j H', Inv (X.blk s3 H3 scope ce fp) ([] ++ pinsAt fp s7.heap) (wipe σ8 vs1) H' s' ∧ tn1 j s'.heap ∧ (∀ b ∈ fp1, H' b = none) ∧ W1 j m H' := fun {s' H'} I' nx => by
              obtain ⟨m', hm, w'⟩ := hNx1 H' nx
              have pin' : ∀ b ∈ fp1, ∀ o, s14.heap.get? b = some o → s'.heap.get? b = some o ∧ H' b = none := fun b hb o e => by
                have z := I'.pin (b, o) (List.mem_append_right _ (List.mem_append_right _ (mem_pinsAt hb e)))
                exact ⟨z.1, z.2.1⟩
              refine ⟨m', hm, j + 1, H', I'.unpinned.weak (by rw [← hw15, wipe_length]) (fun j v e => (wipe_some (vs := vs1) (hw15 ▸ e)).1), T1.keep _ _ _ st14 fun b hb o e => (pin' b hb o e).1, fun b hb => ?_, w'⟩
              obtain ⟨o, e, _⟩ := T1.obj _ _ st14 b hb
              exact (pin' b hb o e).2
            cases b1 with
            | false =>
              simp only [Bool.false_eq_true, if_false] at q16 ⊢
              exact fin1 I16 q16
            | true =>
              simp only [if_true] at q16 ⊢
              refine thnF (pk.run _ s16 σ15 H16 _ I16 q16) fun z s17 ⟨yk, H17, I17, r17, q17⟩ => ?_
              refine thnF (pv.run _ s17 σ15 H17 _ I17 q17) fun z2 s18 ⟨yv, H18, I18, r18, kvs, kk, ek, hD18, hz18, nx⟩ => ?_
              subst ek
              exact d_dictSet (X := X.blk s3 H3 scope ce fp) I18 hD18 hz18 r17 r18 fun s19 I19 => fin1 I19 nx
        exact startD1 loop1 (T1.self X.A 0 _ _ _ st11 loop1)
  exact codeAny_compStart_dict loop (T.self X.A 0 _ _ _ st4 loop)
theorem pe_dc2 {kx vx t0 i0 t1 i1 : Expr} {f0 f1 : List Expr} {scope : Scope} {own : List (Str × Nat)} {vs1 : List Nat} {pos : Pos} {wi wi1 : TI} {g g1 : TG} {tt tt1 : TT} {tk tv : TE} (hc : X.calm = true) (hN : X.N.Nodup) (hi : PI X t0 i0 wi) (ok : BlkOk X.N X.env.scope scope own) (hv : ∀ i ∈ vs1, i ∈ own.map (·.2))
    (B : Blk2 X kx vx t0 f0 t1 i1 f1 scope g tt wi1 g1 tt1 tk tv) (hs : ∀ x, foldedSetIterable i0 X.env x = pure x := by intro _; rfl) (hs1 : ∀ env x, foldedSetIterable i1 env x = pure x := by intro _ _; rfl) :
    PE X (.DictComp kx vx [⟨t0, i0, f0, 0⟩, ⟨t1, i1, f1, 0⟩] scope pos) (tDc2 wi g tt wi1 g1 tt1 tk tv (own.map (·.2)) vs1) := by
  refine ⟨fun pins s σ H Q I h => ?_⟩
  rw [arm_eval_DictComp]
  refine dc2_core hc hN I hi ok hv B hs hs1 h fun D C s' m H' I' q hn f => ⟨m, hn, fun h'' sb => ?_⟩
  obtain ⟨f0, f1, f2, f3, f4, f5⟩ := f
  exact ⟨.ref D, H', I'.turned (t' := s'.toks) (fun b o hb e => (sb.2 b hb).trans e) f0 f1 f3 f4 f5, rfl, q⟩
theorem sw_trueD {kx vx : Expr} {gs : List Comprehension} {scope : Scope} {pos py : Pos} {y : Str} {l : Nat} {env : Env} (hk : env.scope.kind = .function) (hy : env.scope.names.lookup y = some .local) (hl : (py.line == pos.line) = true)
    (ha : (scope.names.any fun (n, k) => n == y && (k == .local || k == .cell)) = false) : swapsWith (.DictComp kx vx gs scope pos) (some (.Name y py)) l env = pure true := by
  have ky : env.kindOf y = some .local := hy
  have hb : env.blockKind = .function := by unfold Env.blockKind; rw [hk]; rfl
  unfold swapsWith
  simp only [hb, ky, ha, Expr.pos, hl]
  rfl
theorem ps_setDc2 {i : Nat} {y : Str} {py spos : Pos} {kx vx t0 i0 t1 i1 : Expr} {f0 f1 : List Expr} {scope : Scope} {own : List (Str × Nat)} {vs1 : List Nat} {pos : Pos} {wi wi1 : TI} {g g1 : TG} {tt tt1 : TT} {tk tv : TE} (hc : X.calm = true) (hN : X.N.Nodup) (hy : X.N[i]? = some y) (hyl : X.env.scope.names.lookup y = some .local)
    (hsw : swapsWith (.DictComp kx vx [⟨t0, i0, f0, 0⟩, ⟨t1, i1, f1, 0⟩] scope pos) (some (.Name y py)) spos.line X.env = pure true) (hi : PI X t0 i0 wi) (ok : BlkOk X.N X.env.scope scope own) (hv : ∀ i ∈ vs1, i ∈ own.map (·.2))
    (B : Blk2 X kx vx t0 f0 t1 i1 f1 scope g tt wi1 g1 tt1 tk tv) (hs : ∀ x, foldedSetIterable i0 X.env x = pure x := by intro _; rfl) (hs1 : ∀ env x, foldedSetIterable i1 env x = pure x := by intro _ _; rfl) :
    PS X (.Assign [.Name y py] (.DictComp kx vx [⟨t0, i0, f0, 0⟩, ⟨t1, i1, f1, 0⟩] scope pos) spos) (tAsg (tDc2 wi g tt wi1 g1 tt1 tk tv (own.map (·.2)) vs1) (gName i)) := by
  refine ⟨fun pins s σ H D I h => ?_⟩
  rw [exec_Assign_Name_used _ _ _ _ hsw]
  refine wpAny_bind (wpAny_standAt (wpAny_bind ?_))
  show wpAny _ X.A (do let _ ← comprehension (.DictComp kx vx [⟨t0, i0, f0, 0⟩, ⟨t1, i1, f1, 0⟩] scope pos) scope X.env (firstIterPos [⟨t0, i0, f0, 0⟩, ⟨t1, i1, f1, 0⟩] pos) newDict false (eval i0 X.env) (some (assign (.Name y py) X.env))) _ _ s
  have h : tDc2 wi g tt wi1 g1 tt1 tk tv (own.map (·.2)) vs1 σ H (fun x H1 => gName i x σ H1 D.nx) := h
  refine wpAny_bind (thn (dc2_core (Qf := fun _ s' => SP X pins D .next s') hc hN I hi ok hv B hs hs1 h fun L C s' m H' I' q hn f => ?_) fun _ s' hq => wpAny_pure (wpAny_pure hq))
  show wpAny _ _ (assign (.Name y py) X.env (.ref L)) _ _ _
  refine wpAny_assign_Name (store_ok2 (v := V.ref L) I' hN hy (.inl hyl) rfl (fun s2 I2 ⟨a, sb, ha⟩ => ?_) (.inr hyl))
  obtain ⟨f0, f1, f2, f3, f4, f5⟩ := f
  have haC : C ≠ a := by
    rcases ha with z | z
    · rw [z]; exact f1
    · exact fun e => f4 y a z e.symm
  refine ⟨m, hn.sameBut sb haC, fun h3 sb3 => ?_⟩
  exact ⟨_, H', I2.turned (t' := s2.toks) (fun b o hb e => (sb3.2 b hb).trans e) f0 f1 f3 f4 f5, q⟩
end
end TW
set_option Elab.async false
set_option linter.all false
set_option maxRecDepth 100000
set_option maxHeartbeats 4000000
/-! the data layer: what is known of finished objects (F) beside the heap as it runs (H) -/
namespace TW
open PySem PySem.Spec PyProof.Rows L2
open Evl (Ex)

inductive IsDic : HO → Prop
  | k (kvs : List (Key × V)) : IsDic (.dK kvs)
  | t (kvs : List (List Key × V)) : IsDic (.dT kvs)
/-- nothing, or a tuple -/
inductive IsNT : Option HO → Prop
  | n : IsNT none
  | t (xs : List V) : IsNT (some (.tup xs))
/-- what F knows stands in H; a dict may be locked there -/
def Sees (F H : Hp) : Prop := ∀ a o, F a = some o → H a = some o ∨ ∃ (ob : Obj) (_ : Unit), IsDic o ∧ H a = some (.frz ob o)
/-- H and H' agree but at B -/
def ExB (B : List Addr) (H H' : Hp) : Prop := ∀ a o, a ∉ B → H a = some o → H' a = some o
/-- from (F, H) one came to (F', H'): finished objects stay, new ones are new, only those at B changed -/
structure Gr (B : List Addr) (F H F' H' : Hp) : Prop where
  ff : Ex F F'
  hh : ExB B H H'
  fh : Sees F' H'
  nw : ∀ p o, F' p = some o → F p = some o ∨ IsNT (H p)
  dm : ∀ p, H' p = none → H p = none
  dt : ∀ p, IsNT (H' p) → IsNT (H p)
theorem Sees.dm {F H : Hp} (s : Sees F H) {p : Addr} (h : H p = none) : F p = none := by
  cases e : F p with
  | none => rfl
  | some o =>
    rcases s p o e with z | ⟨_, _, _, z⟩ <;> rw [h] at z <;> cases z
theorem Gr.refl {B : List Addr} {F H : Hp} (s : Sees F H) : Gr B F H F H := ⟨Ex.refl F, fun _ _ _ e => e, s, fun _ _ e => .inl e, fun _ e => e, fun _ e => e⟩
section
variable {B B' : List Addr} {F H F1 H1 F2 H2 : Hp} {p : Addr} {o : HO}
theorem Gr.trans (g : Gr B F H F1 H1) (k : Gr B' F1 H1 F2 H2) (hb : ∀ b ∈ B', b ∈ B ∨ H b = none := by intro b hb; exact absurd hb (by simp)) : Gr B F H F2 H2 where
  ff := g.ff.trans k.ff
  hh := fun a o ha e => k.hh a o (fun hm => (hb a hm).elim ha fun z => by rw [e] at z; cases z) (g.hh a o ha e)
  fh := k.fh
  nw := fun p o e => by
    rcases k.nw p o e with z | z
    · exact g.nw p o z
    · exact .inr (g.dt p z)
  dm := fun p e => g.dm p (k.dm p e)
  dt := fun p e => g.dt p (k.dt p e)
/-- the value is a tuple object of these items -/
def TupR (F : Hp) (v : V) (xs : List V) : Prop := ∃ b, v = .ref b ∧ F b = some (.tup xs)
theorem TupR.ex {F F' : Hp} {v : V} {xs : List V} (h : TupR F v xs) (e : Ex F F') : TupR F' v xs := let ⟨b, h1, h2⟩ := h; ⟨b, h1, e _ _ h2⟩
/-- a new finished object -/
theorem Gr.new (g : Gr B F H F1 H1) (hp : H1 p = none) : Gr B F H (upd F1 p o) (upd H1 p o) := g.trans (B' := []) {
  ff := Ex.new (g.fh.dm hp)
  hh := fun a u _ e => Ex.new hp a u e
  fh := fun a u e => by
    by_cases ha : a = p
    · subst ha; rw [upd_same] at e ⊢; exact .inl e
    · rw [upd_ne ha] at e ⊢; exact g.fh a u e
  nw := fun a u e => by
    by_cases ha : a = p
    · subst ha; exact .inr (by rw [hp]; exact .n)
    · rw [upd_ne ha] at e; exact .inl e
  dm := fun a e => by
    by_cases ha : a = p
    · subst ha; rw [upd_same] at e; cases e
    · rw [upd_ne ha] at e; exact e
  dt := fun a e => by
    by_cases ha : a = p
    · subst ha; rw [hp]; exact .n
    · rw [upd_ne ha] at e; exact e }
/-- an unfinished object is new or changes -/
theorem Gr.mut (g : Gr B F H F1 H1) (hf : F1 p = none) (hb : p ∈ B ∨ H p = none) (ho : ¬ IsNT (some o) ∨ IsNT (H p) := by left; intro z; nomatch z) : Gr B F H F1 (upd H1 p o) where
  ff := g.ff
  hh := fun a u ha e => by
    have : a ≠ p := fun z => by subst z; exact hb.elim ha fun z => by rw [e] at z; cases z
    rw [upd_ne this]; exact g.hh a u ha e
  fh := fun a u e => by
    have : a ≠ p := fun z => by subst z; rw [e] at hf; cases hf
    rw [upd_ne this]; exact g.fh a u e
  nw := g.nw
  dm := fun a e => by
    by_cases ha : a = p
    · subst ha; rw [upd_same] at e; cases e
    · rw [upd_ne ha] at e; exact g.dm a e
  dt := fun a e => by
    by_cases ha : a = p
    · subst ha
      rw [upd_same] at e
      exact ho.elim (fun z => absurd e z) id
    · rw [upd_ne ha] at e; exact g.dt a e
theorem Gr.newM (g : Gr B F H F1 H1) (hp : H1 p = none) : Gr B F H F1 (upd H1 p o) := g.mut (g.fh.dm hp) (.inr (g.dm p hp)) (.inr (by rw [g.dm p hp]; exact .n))
/-- an object of ours is finished -/
theorem Gr.done (g : Gr B F H F1 H1) (hn : H p = none) (hf : F1 p = none) (h1 : H1 p = some o) : Gr B F H (upd F1 p o) H1 where
  ff := g.ff.trans (Ex.new hf)
  hh := g.hh
  fh := fun a u e => by
    by_cases ha : a = p
    · subst ha; rw [upd_same] at e; cases e; exact .inl h1
    · rw [upd_ne ha] at e; exact g.fh a u e
  nw := fun a u e => by
    by_cases ha : a = p
    · subst ha; exact .inr (by rw [hn]; exact .n)
    · rw [upd_ne ha] at e; exact g.nw a u e
  dm := g.dm
  dt := g.dt
/-- a tuple that stood there becomes known -/
theorem Gr.known {xs : List V} (g : Gr B F H F1 H1) (h1 : H1 p = some (.tup xs)) : Gr B F H (upd F1 p (.tup xs)) H1 where
  ff := g.ff.trans fun a u e => by
    by_cases ha : a = p
    · subst ha
      rcases g.fh a u e with z | ⟨_, _, _, z⟩
      · rw [h1] at z; rw [upd_same]; exact z
      · rw [h1] at z; cases z
    · rw [upd_ne ha]; exact e
  hh := g.hh
  fh := fun a u e => by
    by_cases ha : a = p
    · subst ha; rw [upd_same] at e; cases e; exact .inl h1
    · rw [upd_ne ha] at e; exact g.fh a u e
  nw := fun a u e => by
    by_cases ha : a = p
    · subst ha; exact .inr (g.dt a (by rw [h1]; exact .t xs))
    · rw [upd_ne ha] at e; exact g.nw a u e
  dm := g.dm
  dt := g.dt
theorem Gr.mono (g : Gr B F H F1 H1) (hb : ∀ b ∈ B, b ∈ B' ∨ H b = none) : Gr B' F H F1 H1 :=
  ⟨g.ff, fun a o ha e => g.hh a o (fun hm => (hb a hm).elim ha fun z => by rw [e] at z; cases z) e, g.fh, g.nw, g.dm, g.dt⟩
theorem Gr.none' (g : Gr B F H F1 H1) (hf : F p = none) (hp : ¬ IsNT (H p)) : F1 p = none := by
  cases e : F1 p with
  | none => rfl
  | some o =>
    rcases g.nw p o e with z | z
    · rw [hf] at z; cases z
    · exact absurd z hp
theorem Gr.at (g : Gr B F H F1 H1) (e : H p = some o) (hb : p ∉ B := by simp) : H1 p = some o := g.hh p o hb e
end

/-! ### data that stays -/
section
variable {K : PySem.W.Frag} {F H : Hp}
theorem ex_sees (e : Ex F H) : Sees F H := fun a o h => .inl (e a o h)
theorem sees_rdL {a : Addr} {xs : List V} (s : Sees F H) (h : Rd F a (.lst xs)) : Rd H a (.lst xs) := by
  rcases h with h | ⟨o, h⟩
  · rcases s a _ h with z | ⟨_, _, z, _⟩
    · exact .inl z
    · nomatch z
  · rcases s a _ h with z | ⟨_, _, z, _⟩
    · exact .inr ⟨o, z⟩
    · nomatch z
theorem sees_rdT {a : Addr} {xs : List V} (s : Sees F H) (h : Rd F a (.tup xs)) : Rd H a (.tup xs) := by
  rcases h with h | ⟨o, h⟩
  · rcases s a _ h with z | ⟨_, _, z, _⟩
    · exact .inl z
    · nomatch z
  · rcases s a _ h with z | ⟨_, _, z, _⟩
    · exact .inr ⟨o, z⟩
    · nomatch z
theorem sees_l {a : Addr} {xs : List V} (s : Sees F H) (h : SqL K F a xs) : SqL K H a xs := h.imp (sees_rdL s) id
theorem sees_t {a : Addr} {xs : List V} (s : Sees F H) (h : SqT K F a xs) : SqT K H a xs := h.imp (sees_rdT s) id
theorem sees_d {a : Addr} {kvs : List (Key × V)} (s : Sees F H) (h : F a = some (.dK kvs)) : Rd H a (.dK kvs) := by
  rcases s a _ h with z | ⟨ob, _, z, q⟩
  · exact .inl z
  · exact .inr ⟨ob, q⟩
theorem sees_i {a C dx : Addr} {fs : List (Str × V)} (s : Sees F H) (h : F a = some (.ins C dx fs)) : H a = some (.ins C dx fs) := by
  rcases s a _ h with z | ⟨_, _, z, _⟩
  · exact z
  · nomatch z
end
end TW
namespace L2
open PySem PySem.Spec PyProof.Rows TW
open Evl (Ex)
section
variable {K : PySem.W.Frag} {F H : Hp}
mutual
theorem Dp.sees (s : Sees F H) : ∀ {d : PyData} {v : V}, Dp K F v d → Dp K H v d
  | _, _, .non => .non
  | _, _, .bl b => .bl b
  | _, _, .int i => .int i
  | _, _, .str x => .str x
  | _, _, .lst h q => .lst (sees_l s h) (DpAll.sees s q)
  | _, _, .tup h q => .tup (sees_t s h) (DpAll.sees s q)
theorem DpAll.sees (s : Sees F H) : ∀ {ds : List PyData} {vs : List V}, DpAll K F vs ds → DpAll K H vs ds
  | _, _, .nil => .nil
  | _, _, .cons h q => .cons (Dp.sees s h) (DpAll.sees s q)
end
theorem Dp.ex {d : PyData} {v : V} (h : Dp K F v d) (e : Ex F H) : Dp K H v d := Dp.sees (ex_sees e) h
theorem DpAll.ex {ds : List PyData} {vs : List V} (h : DpAll K F vs ds) (e : Ex F H) : DpAll K H vs ds := DpAll.sees (ex_sees e) h
theorem DpAll.length : ∀ {vs : List V} {ds : List PyData}, DpAll K F vs ds → vs.length = ds.length
  | _, _, .nil => rfl
  | _, _, .cons _ q => congrArg (· + 1) (DpAll.length q)
theorem DpAll.get : ∀ {vs : List V} {ds : List PyData} {i : Nat} {v : V}, DpAll K F vs ds → vs[i]? = some v → ∃ d, ds[i]? = some d ∧ Dp K F v d
  | _, _, 0, _, .cons h q, e => by simp at e; subst e; exact ⟨_, rfl, h⟩
  | _, _, i + 1, _, .cons h q, e => by
    obtain ⟨d, h1, h2⟩ := DpAll.get (i := i) q (by simpa using e)
    exact ⟨d, by simpa using h1, h2⟩
theorem DpAll.getD : ∀ {vs : List V} {ds : List PyData} {i : Nat} {d : PyData}, DpAll K F vs ds → ds[i]? = some d → ∃ v, vs[i]? = some v ∧ Dp K F v d
  | _, _, 0, _, .cons h q, e => by simp at e; subst e; exact ⟨_, rfl, h⟩
  | _, _, i + 1, _, .cons h q, e => by
    obtain ⟨d, h1, h2⟩ := DpAll.getD (i := i) q (by simpa using e)
    exact ⟨d, by simpa using h1, h2⟩
theorem DpAll.append : ∀ {vs ws : List V} {ds es : List PyData}, DpAll K F vs ds → DpAll K F ws es → DpAll K F (vs ++ ws) (ds ++ es)
  | _, _, _, _, .nil, q => q
  | _, _, _, _, .cons h t, q => .cons h (DpAll.append t q)
end
end L2
namespace TW
open PySem PySem.Spec PyProof.Rows L2
open Evl (Ex)
section
variable {K : PySem.W.Frag} {F H : Hp}
theorem dp_int {v : V} {i : Int} : Dp K F v (.int i) ↔ v = .int i := ⟨fun h => by cases h; rfl, fun h => by rw [h]; exact .int i⟩
theorem dp_str {v : V} {x : Str} : Dp K F v (.str x) ↔ v = .str x := ⟨fun h => by cases h; rfl, fun h => by rw [h]; exact .str x⟩
theorem dp_bl {v : V} {b : Bool} : Dp K F v (.bool b) ↔ v = .bl b := ⟨fun h => by cases h; rfl, fun h => by rw [h]; exact .bl b⟩
theorem dps_int : ∀ {l : List Int} {vs : List V}, DpAll K F vs (l.map .int) ↔ vs = l.map V.int
  | [], vs => ⟨fun h => by cases h; rfl, fun h => by rw [h]; exact .nil⟩
  | i :: l, vs => ⟨fun h => by
      cases h with
      | cons h q => rw [dp_int.mp h, dps_int.mp q]; rfl, fun h => by rw [h]; exact .cons (.int i) (dps_int.mpr rfl)⟩
theorem dps_str : ∀ {l : List Str} {vs : List V}, DpAll K F vs (l.map .str) ↔ vs = l.map V.str
  | [], vs => ⟨fun h => by cases h; rfl, fun h => by rw [h]; exact .nil⟩
  | i :: l, vs => ⟨fun h => by
      cases h with
      | cons h q => rw [dp_str.mp h, dps_str.mp q]; rfl, fun h => by rw [h]; exact .cons (.str i) (dps_str.mpr rfl)⟩
theorem dps_bl : ∀ {l : List Bool} {vs : List V}, DpAll K F vs (l.map .bool) ↔ vs = l.map V.bl
  | [], vs => ⟨fun h => by cases h; rfl, fun h => by rw [h]; exact .nil⟩
  | i :: l, vs => ⟨fun h => by
      cases h with
      | cons h q => rw [dp_bl.mp h, dps_bl.mp q]; rfl, fun h => by rw [h]; exact .cons (.bl i) (dps_bl.mpr rfl)⟩
theorem dp_list {v : V} {ds : List PyData} (h : Dp K F v (.list ds)) : ∃ a xs, v = .ref a ∧ SqL K F a xs ∧ DpAll K F xs ds := by
  cases h with
  | lst h q => exact ⟨_, _, rfl, h, q⟩
theorem dp_tup {v : V} {ds : List PyData} (h : Dp K F v (.tuple ds)) : ∃ a xs, v = .ref a ∧ SqT K F a xs ∧ DpAll K F xs ds := by
  cases h with
  | tup h q => exact ⟨_, _, rfl, h, q⟩
/-- a list or a tuple -/
def isSeq (d : PyData) (ds : List PyData) : Prop := d = .list ds ∨ d = .tuple ds
theorem dp_seq {v : V} {d : PyData} {ds : List PyData} (h : Dp K F v d) (q : isSeq d ds) : ∃ a xs, v = .ref a ∧ (SqL K F a xs ∨ SqT K F a xs) ∧ DpAll K F xs ds := by
  rcases q with rfl | rfl
  · obtain ⟨a, xs, e, h1, h2⟩ := dp_list h
    exact ⟨a, xs, e, .inl h1, h2⟩
  · obtain ⟨a, xs, e, h1, h2⟩ := dp_tup h
    exact ⟨a, xs, e, .inr h1, h2⟩
/-- a list of ours of such items is data when it is finished -/
theorem dp_newL {F' : Hp} {p : Addr} {ys : List V} {ds : List PyData} (h : DpAll K F ys ds) (e : Ex F F') (hp : F' p = some (.lst ys)) : Dp K F' (.ref p) (.list ds) := .lst (.inl (.inl hp)) (h.ex e)
theorem dp_newT {F' : Hp} {p : Addr} {ys : List V} {ds : List PyData} (h : DpAll K F ys ds) (e : Ex F F') (hp : F' p = some (.tup ys)) : Dp K F' (.ref p) (.tuple ds) := .tup (.inl (.inl hp)) (h.ex e)
end

/-! ### what is walked: a list or a tuple -/
section
variable {X : Cx} {tg : Expr}
theorem PI.or {e : Expr} {wi wi' : TI} (h : PI X tg e wi) (h' : PI X tg e wi') : PI X tg e (fun σ H R => wi σ H R ∨ wi' σ H R) :=
  ⟨fun pins s σ H R I q => q.elim (fun q => h.run pins s σ H R I q) fun q => h'.run pins s σ H R I q⟩
/-- what walks a list or a tuple of the items xs, as long as F is seen -/
structure rSeq (K : PySem.W.Frag) (x : V) (H1 : Hp) (R : It → Hp → Prop) : Prop where
  r : ∃ (a : Addr) (xs : List V), x = .ref a ∧ ((SqL K H1 a xs ∧ R (Itl K a) H1) ∨ (SqT K H1 a xs ∧ R (Itt K a) H1))
def iSeq (K : PySem.W.Frag) (te : TE) : TI := fun σ H R => te σ H fun x H1 => rSeq K x H1 R
theorem pi_seq {e : Expr} {te : TE} (he : PE X e te) : PI X tg e (iSeq X.K te) := by
  refine ⟨fun pins s σ H R I h => thn (he.run pins s σ H _ I h) fun v s1 hv => ?_⟩
  obtain ⟨x, H1, I1, r1, ⟨a, xs, rfl, q⟩⟩ := hv
  cases r1
  have fp : ∀ b ∈ [s1.heap.objs.size], FpOk X pins H1 b := fun b hb => by
    rw [List.mem_singleton.mp hb]
    exact I1.fpOk (Nat.le_refl _) (I1.hok.fresh (Nat.le_refl _))
  have kp : ∀ {o : Obj}, Inv X pins σ H1 { s1 with heap := s1.heap.push o } := fun {o} => I1.kept (t' := s1.toks) fun b u e => Heap.get?_push_of_some _ e
  rcases q with ⟨hq, q⟩ | ⟨hq, q⟩
  · obtain ⟨its, _, pl, _⟩ := I1.list hq
    exact wpAny_pyIter_list pl.isList ⟨_, [s1.heap.objs.size], _, _, H1, rfl, kp, turn_list a _, ⟨_, Heap.get?_push_size _ rfl, rfl, rfl⟩, fp, q⟩
  · obtain ⟨its, _, pl, _⟩ := I1.tuple hq
    exact wpAny_pyIter_tuple (show s1.heap.IsTuple a its.toArray from pl) ⟨_, [s1.heap.objs.size], _, _, H1, rfl, kp, turn_tuple a _, ⟨_, Heap.get?_push_size _ rfl, rfl, rfl⟩, fp, q⟩
end
end TW
set_option Elab.async false
set_option linter.all false
set_option maxRecDepth 100000
set_option maxHeartbeats 4000000
/-! comprehensions whose turns leave all finished objects as they are -/
namespace TW
open PySem PySem.Spec PyProof.Rows L2
open Evl (Ex)

/-- what a comprehension's walk must show (its list at D) -/
abbrev LcW (J : It) (g : TG) (tt : TT) (te : TE) (vs : List Nat) (σ : L2.St) (H1 : Hp) (D : Addr) (Qd : Hp → Prop) : Prop := ∃ W : Nat → Nat → Hp → Prop, (∃ m, W 0 m (upd H1 D (.lst []))) ∧ ∀ i m H, W i m H →
  (J.stop i H ∧ Qd H) ∨ (J.go i H ∧ ∃ Nx : Hp → Prop, (∀ H', Nx H' → ∃ m', m' < m ∧ W (i + 1) m' H') ∧ ∀ x H', J.yld i H x H' → g x (wipe σ vs) H' fun σ2 H2 => wipe σ2 vs = wipe σ vs ∧ tt σ2 H2 fun b H3 =>
    if b = true then te σ2 H3 fun y H4 => ∃ acc, H4 D = some (.lst acc) ∧ acc.length < sizeLine ∧ Nx (upd H4 D (.lst (acc ++ [y]))) else Nx H3)
/-- a turn: the item x stored, tested (b), the element made (R) -/
def TurnP (B : List Addr) (g : TG) (tt : TT) (te : TE) (vs : List Nat) (σ : L2.St) (x : V) (F H : Hp) (b : Bool) (R : V → Hp → Hp → Prop) (R0 : Hp → Hp → Prop := fun _ _ => True) : Prop :=
  ∀ (Yes : V → Hp → Prop) (No : Hp → Prop), (b = false → ∀ F3 H3, Gr B F H F3 H3 → R0 F3 H3 → No H3) → (b = true → ∀ y F3 H3, Gr B F H F3 H3 → R y F3 H3 → Yes y H3) →
    g x (wipe σ vs) H fun σ2 H2 => wipe σ2 vs = wipe σ vs ∧ tt σ2 H2 fun b H3 => if b = true then te σ2 H3 Yes else No H3
section
variable {K : PySem.W.Frag} {J : It} {n : Nat} {G : Hp → Prop} {Y : Nat → Hp → V → Hp → Prop} {g : TG} {tt : TT} {te : TE} {vs : List Nat} {σ : L2.St} {F H1 : Hp} {D : Addr} {Qd : Hp → Prop}
/-- no test -/
theorem yesI {σ : L2.St} {H : Hp} {A B : Hp → Prop} (h : A H) : tYes σ H fun b H3 => if b = true then A H3 else B H3 := by
  show if true = true then A H else B H
  rw [if_pos rfl]
  exact h
/-- a turn with no test, the target a name -/
theorem turn1 {B : List Addr} {i : Nat} {x : V} {F H : Hp} {R : V → Hp → Hp → Prop} {R0 : Hp → Hp → Prop} {te : TE} {vs : List Nat} {σ : L2.St} (hw : wipe ((wipe σ vs).set i (some x)) vs = wipe σ vs)
    (h : ∀ Yes : V → Hp → Prop, (∀ y F3 H3, Gr B F H F3 H3 → R y F3 H3 → Yes y H3) → te ((wipe σ vs).set i (some x)) H Yes) : TurnP B (gName i) tYes te vs σ x F H true R R0 := fun Yes No _ h1 => ⟨hw, show if true = true then _ else No H from (if_pos rfl) ▸ h Yes (h1 rfl)⟩
/-- a comprehension with a state of its own (Pv: turn, what is made, finished objects, heap) -/
theorem lc_st {B : List Addr} (w : Walk J n G Y) (sees : Sees F H1) (hB : ∀ b ∈ B, H1 b ≠ none) (Pv : Nat → List V → Hp → Hp → Prop) (hP : ∀ i acc F' H' D o, Pv i acc F' H' → H1 D = none → Pv i acc F' (upd H' D o))
    (hG : ∀ i acc F' H', i ≤ n → Gr B F H1 F' H' → Pv i acc F' H' → G H') (h0 : Pv 0 [] F H1) (hz : n ≤ 100000)
    (hs : ∀ i acc x F' H' H'', i < n → acc.length ≤ i → Gr B F H1 F' H' → Pv i acc F' H' → Y i H' x H'' → ∃ F'', Gr B F' H' F'' H'' ∧ ∃ b, TurnP B g tt te vs σ x F'' H'' b (fun y F3 H3 => Pv (i + 1) (acc ++ [y]) F3 H3) (fun F3 H3 => Pv (i + 1) acc F3 H3))
    (hD : H1 D = none) (q : ∀ acc F' H', Gr B F H1 F' H' → F' D = none → H' D = some (.lst acc) → Pv n acc F' H' → Qd H') : LcW J g tt te vs σ H1 D Qd := by
  have lz : 100000 < sizeLine := by rw [sizeLine_eq]; decide
  have nB : D ∉ B := fun h => hB D h hD
  refine lc_it w (fun i H' => ∃ acc F', acc.length ≤ i ∧ Gr B F H1 F' H' ∧ F' D = none ∧ H' D = some (.lst acc) ∧ Pv i acc F' H')
    ⟨[], F, Nat.le_refl _, (Gr.refl sees).newM hD, sees.dm hD, upd_same, hP _ _ _ _ _ _ h0 hD⟩ (fun i H' hi ⟨acc, F', _, gr, _, _, p⟩ => hG i acc F' H' hi gr p) (fun i x H' H'' hi ⟨acc, F', hl, gr, fD, hDc, p⟩ hy => ?_) fun H' ⟨acc, F', _, gr, fD, hDc, p⟩ => q acc F' H' gr fD hDc p
  obtain ⟨F'', g1, b, t⟩ := hs i acc x F' H' H'' hi hl gr p hy
  have g1' := gr.trans g1 fun b hb => .inl hb
  have nn : ¬ IsNT (H' D) := by rw [hDc]; exact fun z => nomatch z
  refine t _ _ (fun _ F3 H3 g3 p3 => ⟨acc, F3, by omega, g1'.trans g3 fun b hb => .inl hb, ?_, ?_, p3⟩) fun _ y F3 H3 g3 p3 => ⟨acc, ?_, by omega, acc ++ [y], F3, by simp; omega, (g1'.trans g3 fun b hb => .inl hb).mut ?_ (.inr hD), ?_, upd_same, hP _ _ _ _ _ _ p3 hD⟩
  · exact (g1.trans g3 fun b hb => .inl hb).none' fD nn
  · exact (g1.trans g3 fun b hb => .inl hb).hh D _ nB hDc
  · exact (g1.trans g3 fun b hb => .inl hb).hh D _ nB hDc
  · exact (g1.trans g3 fun b hb => .inl hb).none' fD nn
  · exact (g1.trans g3 fun b hb => .inl hb).none' fD nn
/-- a comprehension that changes nothing: of the items bs those with p, made to f -/
theorem lc_pureG {β : Type} {bs : List β} {p : β → Bool} {f : β → PyData} {Im : β → V → Hp → Prop} (w : Walk J bs.length G Y) (sees : Sees F H1) (hG : ∀ F' H', Gr [] F H1 F' H' → G H') (hz : bs.length ≤ 100000)
    (hY : ∀ i b x F' H' H'', bs[i]? = some b → Gr [] F H1 F' H' → Y i H' x H'' → ∃ F'', Gr [] F' H' F'' H'' ∧ Im b x F'')
    (hs : ∀ b x F' H', b ∈ bs → Gr [] F H1 F' H' → Im b x F' → TurnP [] g tt te vs σ x F' H' (p b) (fun y F3 _ => Dp K F3 y (f b)))
    (hD : H1 D = none) (q : ∀ acc F' H', Gr [] F H1 F' H' → F' D = none → H' D = some (.lst acc) → DpAll K F' acc ((bs.filter p).map f) → Qd H') : LcW J g tt te vs σ H1 D Qd := by
  refine lc_st (B := []) w sees (fun _ h => absurd h (by simp)) (fun i acc F' H' => DpAll K F' acc (((bs.take i).filter p).map f)) (fun _ _ _ _ _ _ h _ => h) (fun i acc F' H' _ gr _ => hG F' H' gr) .nil hz
    (fun i acc x F' H' H'' hi _ gr pv hy => ?_) hD fun acc F' H' gr fD hDc pv => q acc F' H' gr fD hDc (by rw [List.take_length] at pv; exact pv)
  have hb : bs[i]? = some bs[i] := List.getElem?_eq_getElem hi
  obtain ⟨F'', g1, im⟩ := hY i bs[i] x F' H' H'' hb gr hy
  have tk : (bs.take (i + 1)) = bs.take i ++ [bs[i]] := by rw [List.take_add_one, hb]; rfl
  have t := hs bs[i] x F'' H'' (List.getElem_mem hi) (gr.trans g1) im
  refine ⟨F'', g1, p bs[i], fun Yes No h0 h1 => t Yes No (fun hb F3 H3 g3 _ => h0 hb F3 H3 g3 ?_) fun hb y F3 H3 g3 r => h1 hb y F3 H3 g3 ?_⟩
  · rw [tk, List.filter_append]
    simp [hb, pv.ex (g1.ff.trans g3.ff)]
  · rw [tk, List.filter_append, List.map_append]
    simp [hb]
    exact (pv.ex (g1.ff.trans g3.ff)).append (.cons r .nil)
theorem sees_gr {F' H' : Hp} (g : Gr [] F H1 F' H') : Sees F H' := fun a o e => g.fh a o (g.ff a o e)
theorem lc_pure {β : Type} {bs : List β} {p : β → Bool} {f : β → PyData} {Im : β → V → Hp → Prop} (w : Walk J bs.length G Y) (sees : Sees F H1) (hG : ∀ H', Sees F H' → G H') (hz : bs.length ≤ 100000)
    (hY : ∀ i b x F' H' H'', bs[i]? = some b → Gr [] F H1 F' H' → Y i H' x H'' → ∃ F'', Gr [] F' H' F'' H'' ∧ Im b x F'')
    (hs : ∀ b x F' H', b ∈ bs → Gr [] F H1 F' H' → Im b x F' → TurnP [] g tt te vs σ x F' H' (p b) (fun y F3 _ => Dp K F3 y (f b)))
    (hD : H1 D = none) (q : ∀ acc F' H', Gr [] F H1 F' H' → F' D = none → H' D = some (.lst acc) → DpAll K F' acc ((bs.filter p).map f) → Qd H') : LcW J g tt te vs σ H1 D Qd :=
  lc_pureG w sees (fun F' H' gr => hG H' (sees_gr gr)) hz hY hs hD q
/-- .. with no test -/
theorem lc_mapG {β : Type} {bs : List β} {f : β → PyData} {Im : β → V → Hp → Prop} (w : Walk J bs.length G Y) (sees : Sees F H1) (hG : ∀ F' H', Gr [] F H1 F' H' → G H') (hz : bs.length ≤ 100000)
    (hY : ∀ i b x F' H' H'', bs[i]? = some b → Gr [] F H1 F' H' → Y i H' x H'' → ∃ F'', Gr [] F' H' F'' H'' ∧ Im b x F'')
    (hs : ∀ b x F' H', b ∈ bs → Gr [] F H1 F' H' → Im b x F' → TurnP [] g tt te vs σ x F' H' true (fun y F3 _ => Dp K F3 y (f b)))
    (hD : H1 D = none) (q : ∀ acc F' H', Gr [] F H1 F' H' → F' D = none → H' D = some (.lst acc) → DpAll K F' acc (bs.map f) → Qd H') : LcW J g tt te vs σ H1 D Qd :=
  lc_pureG (K := K) (p := fun _ => true) (f := f) w sees hG hz hY hs hD fun acc F' H' g1 fD hDc h => q acc F' H' g1 fD hDc (by rw [List.filter_eq_self.mpr (fun _ _ => rfl)] at h; exact h)
theorem lc_map {β : Type} {bs : List β} {f : β → PyData} {Im : β → V → Hp → Prop} (w : Walk J bs.length G Y) (sees : Sees F H1) (hG : ∀ H', Sees F H' → G H') (hz : bs.length ≤ 100000)
    (hY : ∀ i b x F' H' H'', bs[i]? = some b → Gr [] F H1 F' H' → Y i H' x H'' → ∃ F'', Gr [] F' H' F'' H'' ∧ Im b x F'')
    (hs : ∀ b x F' H', b ∈ bs → Gr [] F H1 F' H' → Im b x F' → TurnP [] g tt te vs σ x F' H' true (fun y F3 _ => Dp K F3 y (f b)))
    (hD : H1 D = none) (q : ∀ acc F' H', Gr [] F H1 F' H' → F' D = none → H' D = some (.lst acc) → DpAll K F' acc (bs.map f) → Qd H') : LcW J g tt te vs σ H1 D Qd :=
  lc_mapG w sees (fun F' H' gr => hG H' (sees_gr gr)) hz hY hs hD q
/-- .. of truth values -/
theorem lc_boolsG (K : PySem.W.Frag) {β : Type} {bs : List β} {f : β → Bool} {Im : β → V → Hp → Prop} (w : Walk J bs.length G Y) (sees : Sees F H1) (hG : ∀ F' H', Gr [] F H1 F' H' → G H') (hz : bs.length ≤ 100000)
    (hY : ∀ i b x F' H' H'', bs[i]? = some b → Gr [] F H1 F' H' → Y i H' x H'' → ∃ F'', Gr [] F' H' F'' H'' ∧ Im b x F'')
    (hs : ∀ b x F' H', b ∈ bs → Gr [] F H1 F' H' → Im b x F' → TurnP [] g tt te vs σ x F' H' true (fun y F3 _ => y = .bl (f b)))
    (hD : H1 D = none) (q : ∀ F' H', Gr [] F H1 F' H' → F' D = none → H' D = some (.lst ((bs.map f).map V.bl)) → Qd H') : LcW J g tt te vs σ H1 D Qd :=
  lc_mapG (K := K) (f := fun b => .bool (f b)) w sees hG hz hY (fun b x F' H' hb g1 im Yes No h0 h1 => hs b x F' H' hb g1 im Yes No h0 fun hb y F3 H3 g3 r => h1 hb y F3 H3 g3 (by rw [r]; exact .bl _)) hD fun acc F' H' g1 fD hDc h => by
    have e : bs.map (fun b => PyData.bool (f b)) = (bs.map f).map PyData.bool := by rw [List.map_map]; rfl
    rw [e, dps_bl] at h
    rw [h] at hDc
    exact q F' H' g1 fD hDc
theorem lc_bools (K : PySem.W.Frag) {β : Type} {bs : List β} {f : β → Bool} {Im : β → V → Hp → Prop} (w : Walk J bs.length G Y) (sees : Sees F H1) (hG : ∀ H', Sees F H' → G H') (hz : bs.length ≤ 100000)
    (hY : ∀ i b x F' H' H'', bs[i]? = some b → Gr [] F H1 F' H' → Y i H' x H'' → ∃ F'', Gr [] F' H' F'' H'' ∧ Im b x F'')
    (hs : ∀ b x F' H', b ∈ bs → Gr [] F H1 F' H' → Im b x F' → TurnP [] g tt te vs σ x F' H' true (fun y F3 _ => y = .bl (f b)))
    (hD : H1 D = none) (q : ∀ F' H', Gr [] F H1 F' H' → F' D = none → H' D = some (.lst ((bs.map f).map V.bl)) → Qd H') : LcW J g tt te vs σ H1 D Qd :=
  lc_boolsG K w sees (fun F' H' gr => hG H' (sees_gr gr)) hz hY hs hD q
end
/-! ### a dict is locked while it is walked -/
section
variable {F H F' H' : Hp} {d : Addr} {od : Obj} {kvs : List (Key × V)}
theorem sees_lockD {u : HO} (hu : IsDic u) (s : Sees F H) (hF : F d = some u) : Sees F (upd H d (.frz od u)) := fun a o e => by
  by_cases h : a = d
  · subst h
    rw [hF] at e
    cases e
    exact .inr ⟨od, (), hu, upd_same⟩
  · rw [upd_ne h]; exact s a o e
theorem sees_lock (s : Sees F H) (hF : F d = some (.dK kvs)) : Sees F (upd H d (.frz od (.dK kvs))) := sees_lockD (.k kvs) s hF
theorem sees_lockT {kvs : List (List Key × V)} (s : Sees F H) (hF : F d = some (.dT kvs)) : Sees F (upd H d (.frz od (.dT kvs))) := sees_lockD (.t kvs) s hF
theorem Gr.unlockD {B : List Addr} {u : HO} (hu : IsDic u) (hF : F d = some u) (h : H d = some u) (g : Gr B F (upd H d (.frz od u)) F' H') : Gr B F H F' (upd H' d u) where
  ff := g.ff
  hh := fun a o ha e => by
    by_cases z : a = d
    · subst z
      rw [h] at e
      rw [upd_same]; exact e
    · rw [upd_ne z]; exact g.hh a o ha (by rw [upd_ne z]; exact e)
  fh := fun a o e => by
    by_cases z : a = d
    · subst z
      have z2 := g.ff _ _ hF
      rw [z2] at e
      exact .inl (by rw [upd_same]; exact e)
    · rw [upd_ne z]; exact g.fh a o e
  nw := fun p o e => by
    rcases g.nw p o e with z | z
    · exact .inl z
    · by_cases y : p = d
      · subst y; rw [upd_same] at z; nomatch z
      · rw [upd_ne y] at z; exact .inr z
  dm := fun p e => by
    by_cases y : p = d
    · subst y; rw [upd_same] at e; cases e
    · rw [upd_ne y] at e
      have z := g.dm p e
      rw [upd_ne y] at z; exact z
  dt := fun p e => by
    by_cases y : p = d
    · subst y
      rw [upd_same] at e
      cases hu <;> nomatch e
    · rw [upd_ne y] at e
      have z := g.dt p e
      rw [upd_ne y] at z; exact z
theorem Gr.unlock (hF : F d = some (.dK kvs)) (h : H d = some (.dK kvs)) (g : Gr [] F (upd H d (.frz od (.dK kvs))) F' H') : Gr [] F H F' (upd H' d (.dK kvs)) := g.unlockD (.k kvs) hF h
theorem Gr.unlockT {kvs : List (List Key × V)} (hF : F d = some (.dT kvs)) (h : H d = some (.dT kvs)) (g : Gr [] F (upd H d (.frz od (.dT kvs))) F' H') : Gr [] F H F' (upd H' d (.dT kvs)) := g.unlockD (.t kvs) hF h
end
/-! ### dict comprehensions -/
section
variable {K : PySem.W.Frag} {J : It} {n : Nat} {G : Hp → Prop} {Y : Nat → Hp → V → Hp → Prop} {g : TG} {tt : TT} {tk tv : TE} {vs : List Nat} {σ : L2.St} {F H1 : Hp} {D : Addr} {Qd : Hp → Prop}
abbrev DcW (J : It) (g : TG) (tt : TT) (tk tv : TE) (vs : List Nat) (σ : L2.St) (H1 : Hp) (D : Addr) (Qd : Hp → Prop) : Prop := ∃ W : Nat → Nat → Hp → Prop, (∃ m, W 0 m (upd H1 D (.dK []))) ∧ ∀ i m H, W i m H →
  (J.stop i H ∧ Qd H) ∨ (J.go i H ∧ ∃ Nx : Hp → Prop, (∀ H', Nx H' → ∃ m', m' < m ∧ W (i + 1) m' H') ∧ ∀ x H', J.yld i H x H' → g x (wipe σ vs) H' fun σ2 H2 => wipe σ2 vs = wipe σ vs ∧ tt σ2 H2 fun b H3 =>
    if b = true then tk σ2 H3 fun y H4 => tv σ2 H4 fun z H5 => ∃ kvs k, y = kV k ∧ H5 D = some (.dK kvs) ∧ kvs.length < sizeLine ∧ Nx (upd H5 D (.dK (putK kvs k z))) else Nx H3)
/-- a turn that stores k: z -/
def TurnD (B : List Addr) (g : TG) (tt : TT) (tk tv : TE) (vs : List Nat) (σ : L2.St) (x : V) (F H : Hp) (R : Key → V → Hp → Hp → Prop) : Prop :=
  ∀ (Yes : V → V → Hp → Prop) (No : Hp → Prop), (∀ k z F3 H3, Gr B F H F3 H3 → R k z F3 H3 → Yes (kV k) z H3) →
    g x (wipe σ vs) H fun σ2 H2 => wipe σ2 vs = wipe σ vs ∧ tt σ2 H2 fun b H3 => if b = true then tk σ2 H3 fun y H4 => tv σ2 H4 fun z H5 => Yes y z H5 else No H3
theorem turnD1 {B : List Addr} {i : Nat} {x : V} {F H : Hp} {R : Key → V → Hp → Hp → Prop} {tk tv : TE} {vs : List Nat} {σ : L2.St} (hw : wipe ((wipe σ vs).set i (some x)) vs = wipe σ vs)
    (h : ∀ Yes : V → V → Hp → Prop, (∀ k z F3 H3, Gr B F H F3 H3 → R k z F3 H3 → Yes (kV k) z H3) → tk ((wipe σ vs).set i (some x)) H fun y H4 => tv ((wipe σ vs).set i (some x)) H4 fun z H5 => Yes y z H5) : TurnD B (gName i) tYes tk tv vs σ x F H R :=
  fun Yes No h1 => ⟨hw, show if true = true then _ else No H from (if_pos rfl) ▸ h Yes h1⟩
theorem dc_st (w : Walk J n G Y) (sees : Sees F H1) (Pv : Nat → List (Key × V) → Hp → Hp → Prop) (hP : ∀ i acc F' H' o, Pv i acc F' H' → H1 D = none → F' D = none → Pv i acc F' (upd H' D o))
    (hG : ∀ i acc F' H', i ≤ n → Gr [] F H1 F' H' → Pv i acc F' H' → G H') (h0 : Pv 0 [] F H1) (hz : n ≤ 100000)
    (hs : ∀ i acc x F' H' H'', i < n → acc.length ≤ i → Gr [] F H1 F' H' → F' D = none → H' D = some (.dK acc) → Pv i acc F' H' → Y i H' x H'' → ∃ F'', Gr [] F' H' F'' H'' ∧ TurnD [] g tt tk tv vs σ x F'' H'' (fun k z F3 H3 => Pv (i + 1) (putK acc k z) F3 H3))
    (hD : H1 D = none)
    (q : ∀ acc F' H', Gr [] F H1 F' H' → F' D = none → H' D = some (.dK acc) → Pv n acc F' H' → Qd H') : DcW J g tt tk tv vs σ H1 D Qd := by
  have lz : 100000 < sizeLine := by rw [sizeLine_eq]; decide
  refine ⟨fun i m H' => m = n - i ∧ i ≤ n ∧ ∃ acc F', acc.length ≤ i ∧ Gr [] F H1 F' H' ∧ F' D = none ∧ H' D = some (.dK acc) ∧ Pv i acc F' H', ⟨n, by simp, Nat.zero_le _, [], F, Nat.le_refl _, (Gr.refl sees).newM hD, sees.dm hD, upd_same, hP _ _ _ _ _ h0 hD (sees.dm hD)⟩, ?_⟩
  rintro i m H' ⟨rfl, hi, acc, F', hl, gr, fD, hDc, p⟩
  have hg := hG i acc F' H' hi gr p
  by_cases lt : i < n
  · refine .inr ⟨w.goes i H' lt hg, fun H' => i + 1 ≤ n ∧ ∃ acc F', acc.length ≤ i + 1 ∧ Gr [] F H1 F' H' ∧ F' D = none ∧ H' D = some (.dK acc) ∧ Pv (i + 1) acc F' H', fun H2 h2 => ⟨n - (i + 1), by omega, rfl, h2.1, h2.2⟩, fun x H'' y => ?_⟩
    obtain ⟨F'', g1, t⟩ := hs i acc x F' H' H'' lt hl gr fD hDc p (w.yields i H' x H'' lt hg y)
    have g1' := gr.trans g1
    have nn : ¬ IsNT (H' D) := by rw [hDc]; exact fun z => nomatch z
    exact t (fun y z H5 => ∃ kvs k, y = kV k ∧ H5 D = some (.dK kvs) ∧ kvs.length < sizeLine ∧ (i + 1 ≤ n ∧ ∃ acc' F3, acc'.length ≤ i + 1 ∧ Gr [] F H1 F3 (upd H5 D (.dK (putK kvs k z))) ∧ F3 D = none ∧ (upd H5 D (.dK (putK kvs k z))) D = some (.dK acc') ∧ Pv (i + 1) acc' F3 (upd H5 D (.dK (putK kvs k z))))) _
      fun k z F3 H3 g3 p3 => ⟨acc, k, rfl, (g1.trans g3).at hDc, by omega, lt, putK acc k z, F3, by have := length_putK acc k z; omega, (g1'.trans g3).mut ((g1.trans g3).none' fD nn) (.inr hD), (g1.trans g3).none' fD nn, upd_same, hP _ _ _ _ _ p3 hD ((g1.trans g3).none' fD nn)⟩
  · have e : i = n := by omega
    subst e
    exact .inl ⟨w.stops H' hg, q acc F' H' gr fD hDc p⟩
end
end TW
set_option Elab.async false
set_option linter.all false
set_option maxRecDepth 100000
set_option maxHeartbeats 4000000
/-! defs whose guards are known (repr asks for them): the names of the hand layer, told anew in TW -/
namespace TW
open PySem PySem.Spec PyProof.Rows L2
/-- room, and nothing is being told by repr -/
structure Room (k : Nat) (A : Around) : Prop extends L2.Room k A where
  gu : A.guards = some []
section
variable {j k : Nat} {A : Around}
theorem Room.mono (r : Room k A) (h : j ≤ k) : Room j A := ⟨r.toRoom.mono h, r.gu⟩
theorem Room.deeper (r : Room (k + 1) A) (env : Env) : Room k (A.deeper env) := ⟨r.toRoom.deeper env, r.gu⟩
theorem Room.make (r : Room (k + 1) A) (C : Addr) (us : List Value) (kw : List (Str × Value)) : Room k (A.under (.builtin "type.__call__" ⟨.ref C :: us, kw⟩)) :=
  ⟨r.toRoom.make C us kw, by show pushGuards (Code.builtin "type.__call__" ⟨.ref C :: us, kw⟩).guards A.guards = some []; rw [r.gu]; first | rfl | simp [pushGuards, Code.guards, Code.isGuard, guardIds]⟩
theorem hu_of (r : Room k A) : A.units + 1 < cLine := L2.hu_of r.toRoom
end
/-- a def keeps a promise (CX: what it may let out) -/
structure FnOk (P : Program) (w : World) (K : PySem.W.Frag) (mg : Str → Option Value) (base : Heap) (CX : CXT) (k : Nat) (f : Addr) (fd : FuncData) (ps : List Str) (sp : Sp) : Prop where
  len : ∀ vs H Q E, sp vs H Q E → vs.length = ps.length
  go : ∀ (A : Around) (outer : List Env) (s : Shared) (H : Hp) (args : Args) (us : List Value) (vs : List V) (Q : VK) (E : XK), Room k A → Env0 P w K mg base A outer s H → BindsTo s fd args (ps.zip us) → Vals vs us → sp vs H Q E → codeAny (model P w) A (.call (.ref f) args) (CR CX outer P w H s Q E) s
section
variable {X : Cx} {CX : CXT} {k : Nat} {f C : Addr} {fd : FuncData} {ps ks : List Str} {sp : Sp} {dvs : List V} {ds : List Value} {E : XK} {x m : Str} {p pos apos : Pos} {e o : Expr} {es : List Expr} {ta : TE} {t tk : TA}
theorem run_any {pins : List (Addr × Obj)} {σ : L2.St} {H : Hp} {s : Shared} {Q : VK} {ar : Args} {us : List Value} {vs : List V} (F : FnOk X.prog X.w X.K X.mg X.base CX k f fd ps sp) (room : Room k X.A) (hx : Passes CX X E) (I : Inv X pins σ H s) (b : BindsTo s fd ar (ps.zip us)) (r : Vals vs us) (h : sp vs H Q E) :
    wpAny (model X.prog X.w) X.A (call (.ref f) ar.pos ar.kw) (EP X pins σ Q) X.xe s := by
  refine wpAny_call (codeAny_mono (F.go X.A X.stack s H ⟨ar.pos, ar.kw⟩ us vs Q E room I.env0 b r h) fun res s' q => ?_)
  match res, q with
  | .error e, q => exact hx pins σ H s e s' I q
  | .ok (.ret u), q => exact I.after q
  | .ok .next, q => exact False.elim q
  | .ok .brk, q => exact False.elim q
  | .ok .cont, q => exact False.elim q
theorem run_fn {pins : List (Addr × Obj)} {σ : L2.St} {H : Hp} {s : Shared} {Q : VK} {us : List Value} {vs : List V} (F : FnOk X.prog X.w X.K X.mg X.base CX k f fd ps sp) (room : Room k X.A) (hb : Binds X.K fd ps ds) (hd : Vals dvs ds) (hx : Passes CX X E)
    (I : Inv X pins σ H s) (r : Vals vs us) (h : sp (vs ++ dvs) H Q E) : wpAny (model X.prog X.w) X.A (call (.ref f) us) (EP X pins σ Q) X.xe s := by
  have rr := r.append hd
  exact run_any (ar := ⟨us, []⟩) F room hx I (hb s us I.kIn (by rw [← rr.length]; exact F.len _ _ _ _ h)) rr h
theorem pe_call (F : FnOk X.prog X.w X.K X.mg X.base CX k f fd ps sp) (room : Room k X.A) (hg : Gl X x) (hm : X.mg x = some (.ref f)) (hk : PySem.W.keepIn X.K (.ref f) = true) (hb : Binds X.K fd ps ds) (hd : Vals dvs ds) (hx : Passes CX X E)
    (ha : PA X (e :: es) t) (hdb : (x == ("__debug__" : Str)) = false := by decide) (he : starEach (e :: es) X.env = (false, eval e X.env) :: starEach es X.env := by rfl) (hpl : (backTo pos (starEach es X.env)).any (·.1) = false := by rfl) :
    PE X (.Call (.Name x p) (e :: es) [] pos) (tCall sp dvs E t) := ⟨fun pins s σ H Q I h => by
  refine wpAny_Call_Name_kw (ld_glob I hg hm (PySem.W.callWith_K (h₀ := X.base) I.ok.mod.kin hk (thn (ha.run pos pins s σ H _ I h) fun us s1 q => ?_) he hpl) hdb)
  obtain ⟨vs, H1, I1, r, q⟩ := q
  exact ⟨I1.kIn, run_fn F room hb hd hx I1 r q⟩⟩
theorem pe_call0 (F : FnOk X.prog X.w X.K X.mg X.base CX k f fd ps sp) (room : Room k X.A) (hg : Gl X x) (hm : X.mg x = some (.ref f)) (hk : PySem.W.keepIn X.K (.ref f) = true) (hb : Binds X.K fd ps ds) (hd : Vals dvs ds) (hx : Passes CX X E)
    (hdb : (x == ("__debug__" : Str)) = false := by decide) : PE X (.Call (.Name x p) [] [] pos) (tCall sp dvs E tNil) :=
  ⟨fun pins s σ H Q I h => wpAny_Call_Name_kw (ld_glob I hg hm (PySem.W.callWith_K0 I.kIn hk (run_fn (us := []) F room hb hd hx I .nil h)) hdb)⟩
theorem pe_meth {pl : Sem Bool} (he : PE X o ta) (c : Cls X.K C) (hm : Meth X.K C m f) (F : FnOk X.prog X.w X.K X.mg X.base CX k f fd ps sp) (room : Room k X.A) (hb : Binds X.K fd ps ds) (hd : Vals dvs ds) (hx : Passes CX X E) (ha : PA X (e :: es) t)
    (hst : starEach (e :: es) X.env = (false, eval e X.env) :: starEach es X.env := by rfl) (hpl : (backTo pos (starEach es X.env)).any (·.1) = false := by rfl)
    (ht : eval (.Call (.Attribute o m apos) (e :: es) [] pos) X.env = (do
      let ov ← eval o X.env
      standAt apos.atName
      let (f, first) ← holding [ov] (getMethod ov m pl)
      callWith pos f first (backTo pos (starEach (e :: es) X.env)) (backToKw pos (keywordEach [] X.env))) := by rfl) :
    PE X (.Call (.Attribute o m apos) (e :: es) [] pos) (tMeth C m sp dvs E ta t) := ⟨fun pins s σ H Q I h => by
  refine PySem.W.methodCall_KW (pl := pl) (thn (he.run pins s σ H _ I h) fun u s1 q => ?_) ht
  obtain ⟨x, H1, I1, rx, a, dx, fs, rfl, ea, l, q⟩ := q
  cases rx
  refine getmeth_ok I1 ea c hm l (PySem.W.callWith_K (first := [.ref a]) (h₀ := X.base) I1.ok.mod.kin hm.kp (thn (ha.run pos pins s1 σ H1 _ I1 q) fun us s2 q => ?_) hst hpl)
  obtain ⟨vs, H2, I2, r, q⟩ := q
  exact ⟨I2.kIn, run_fn (us := .ref a :: us) (vs := .ref a :: vs) F room hb hd hx I2 (.cons rfl r) q⟩⟩
theorem pe_meth0 {pl : Sem Bool} (he : PE X o ta) (c : Cls X.K C) (hm : Meth X.K C m f) (F : FnOk X.prog X.w X.K X.mg X.base CX k f fd ps sp) (room : Room k X.A) (hb : Binds X.K fd ps ds) (hd : Vals dvs ds) (hx : Passes CX X E)
    (ht : eval (.Call (.Attribute o m apos) [] [] pos) X.env = (do
      let ov ← eval o X.env
      standAt apos.atName
      let (f, first) ← holding [ov] (getMethod ov m pl)
      callWith pos f first (backTo pos (starEach [] X.env)) (backToKw pos (keywordEach [] X.env))) := by rfl) :
    PE X (.Call (.Attribute o m apos) [] [] pos) (tMeth C m sp dvs E ta tNil) := ⟨fun pins s σ H Q I h => by
  refine PySem.W.methodCall_KW (pl := pl) (thn (he.run pins s σ H _ I h) fun u s1 q => ?_) ht
  obtain ⟨x, H1, I1, rx, a, dx, fs, rfl, ea, l, q⟩ := q
  cases rx
  exact getmeth_ok I1 ea c hm l (PySem.W.callWith_K0 (first := [.ref a]) I1.kIn hm.kp (run_fn (us := [.ref a]) (vs := [.ref a]) F room hb hd hx I1 (.cons rfl .nil) q))⟩
theorem run_make {pins : List (Addr × Obj)} {σ : L2.St} {H : Hp} {s : Shared} {Q : VK} {us : List Value} {vs : List V} (M : Mk X.K C f) (F : FnOk X.prog X.w X.K X.mg X.base CX k f fd ps sp) (room : Room (k + 1) X.A) (hb : Binds X.K fd ps ds) (hd : Vals dvs ds) (hx : Passes CX X E) (I : Inv X pins σ H s) (r : Vals vs us)
    (h : ∀ x dx, H x = none → H dx = none → dx ≠ x → sp (.ref x :: (vs ++ dvs)) (upd (upd H dx (.own x)) x (.ins C dx [])) (fun v H2 => v = .non ∧ Q (.ref x) H2) E) :
    wpAny (model X.prog X.w) X.A (call (.ref C) us) (EP X pins σ Q) X.xe s := by
  have q0 := h (s.heap.objs.size + 1) s.heap.objs.size (I.hok.fresh (Nat.le_succ _)) (I.hok.fresh (Nat.le_refl _)) (Nat.ne_of_lt (Nat.lt_succ_self _))
  have J := Inv.made (C := C) I
  have rr : Vals (V.ref (s.heap.objs.size + 1) :: (vs ++ dvs)) (Value.ref (s.heap.objs.size + 1) :: (us ++ ds)) := .cons rfl (r.append hd)
  have ll : (Value.ref (s.heap.objs.size + 1) :: us ++ ds).length = ps.length := (rr.length.symm.trans (F.len _ _ _ _ q0))
  refine wpAny_call (make_map (f := f) I.kIn M.makes M.init (beq_iff_eq.mp M.fn) (codeAny_mono (F.go _ X.stack _ _ ⟨Value.ref (s.heap.objs.size + 1) :: us, []⟩ (Value.ref (s.heap.objs.size + 1) :: (us ++ ds)) _ _ E (room.make C us [])
    (J.env0.make C us []) (hb _ (Value.ref (s.heap.objs.size + 1) :: us) J.kIn ll) rr q0) fun res s' q => ?_))
  match res, q with
  | .error e, q => exact hx pins σ _ _ e s' J q
  | .ok (.ret u), q =>
    obtain ⟨v, H', I3, rv, ev, q3⟩ := J.after q
    subst ev
    exact ⟨rv, V.ref (s.heap.objs.size + 1), H', I3, rfl, q3⟩
  | .ok .next, q => exact False.elim q
  | .ok .brk, q => exact False.elim q
  | .ok .cont, q => exact False.elim q
theorem pe_make (M : Mk X.K C f) (F : FnOk X.prog X.w X.K X.mg X.base CX k f fd ps sp) (room : Room (k + 1) X.A) (hg : Gl X x) (hm : X.mg x = some (.ref C)) (hb : Binds X.K fd ps ds) (hd : Vals dvs ds) (hx : Passes CX X E)
    (ha : PA X (e :: es) t) (hdb : (x == ("__debug__" : Str)) = false := by decide) (he : starEach (e :: es) X.env = (false, eval e X.env) :: starEach es X.env := by rfl) (hpl : (backTo pos (starEach es X.env)).any (·.1) = false := by rfl) :
    PE X (.Call (.Name x p) (e :: es) [] pos) (tMake C sp dvs E t) := ⟨fun pins s σ H Q I h => by
  refine wpAny_Call_Name_kw (ld_glob I hg hm (PySem.W.callWith_K (h₀ := X.base) I.ok.mod.kin M.kp (thn (ha.run pos pins s σ H _ I h) fun us s1 q => ?_) he hpl) hdb)
  obtain ⟨vs, H1, I1, r, q⟩ := q
  exact ⟨I1.kIn, run_make M F room hb hd hx I1 r q⟩⟩
theorem run_fnk {g : List Value → List Value → List Value} {gV : List V → List V → List V} {pins : List (Addr × Obj)} {σ : L2.St} {H : Hp} {s : Shared} {Q : VK} {us ws : List Value} {vs zs : List V} (F : FnOk X.prog X.w X.K X.mg X.base CX k f fd ps sp) (room : Room k X.A) (hb : KBinds X.K fd ps ks g gV) (hx : Passes CX X E)
    (I : Inv X pins σ H s) (r : Vals vs us) (rz : Vals zs ws) (h : sp (gV vs zs) H Q E) : wpAny (model X.prog X.w) X.A (call (.ref f) us (ks.zip ws)) (EP X pins σ Q) X.xe s := by
  have rr := hb.rel r rz
  exact run_any (ar := ⟨us, ks.zip ws⟩) F room hx I (hb.to s us ws I.kIn (by rw [← rr.length]; exact F.len _ _ _ _ h)) rr h
end
/-- a def's body keeps its promise -/
theorem fn_of {CX : CXT} {P : Program} {w : World} {K : PySem.W.Frag} {mg : Str → Option Value} {base : Heap} {k : Nat} {f : Addr} {name qual : Str} {params : Arguments} {body : List Stmt} {scope : Scope} {dV kV doc pm cdv ct oc : Value} {an od : Option Addr}
    {osl : Array (Option Value)} {N ps : List Str} {sp : Sp} (lk : K.lookup f = some ⟨oc, od, .func (PySem.W.fnOf name qual params body scope dV kV doc pm an cdv ct), osl⟩) (hcd : PySem.W.codeIn K cdv qual = true) (S : FnScope N ps scope) (len : ∀ vs H Q E, sp vs H Q E → vs.length = ps.length)
    (hbody : ∀ (A : Around) (outer : List Env) (s : Shared) (H : Hp) (vs : List V) (Q : VK) (E : XK), Room k (A.deeper (envOfC qual scope s.heap.objs.size f cdv)) → sp vs H Q E →
      ∃ t, PSs (cxOf CX P w K mg base N qual scope f cdv A outer s H E) body t ∧ t { nx := fun _ H' => Q .non H', rt := Q } (start N vs) H) : FnOk P w K mg base CX (k + 1) f (PySem.W.fnOf name qual params body scope dV kV doc pm an cdv ct) ps sp := by
  refine ⟨len, fun A outer s H args us vs Q E room e0 hb r q => ?_⟩
  have inK : K.In s.heap := e0.mod.kin.keeps fun b o h => (e0.bs b o h).1
  have nolim : s.heap.NoLimit := e0.mod.nolimit.keeps fun b o h => (e0.bs b o h).1
  have kinds : ∀ y ∈ ps.zip us, scope.names.lookup y.1 = some .local ∨ (scope.names.lookup y.1 = some .cell ∧ ((cellsFrom (s.heap.objs.size + 1) scope.names []).lookup y.1).isSome = true) := fun y hy =>
    (S.par y.1 (List.of_mem_zip hy).1).imp id fun z => ⟨z, PySem.W.cellsFrom_some _ _ _ (.inl z)⟩
  refine codeAny_call_function room.toRoom.depth (inK _ _ lk) rfl S.co S.gen rfl (PySem.W.codeRec_of inK hcd) (hb _ _ _ _ (wpAny_newFunctionEnv_cells S.kind kinds fun env he s1 x => ?_))
  subst he
  obtain ⟨t, ht, q1⟩ := hbody A outer s H vs Q E (room.deeper _) q
  have I : Inv (cxOf CX P w K mg base N qual scope f cdv A outer s H E) [] (start N vs) H s1 := inv_start S room.hd e0 (len _ _ _ _ q) r x
  refine ⟨nolim.keeps x.toInCall.keep, codeAny_func (wpAny_mono (ht.run [] s1 (start N vs) H _ I q1) (fun fl s' h => ?_) fun e s' h => h)⟩
  match fl, h with
  | .ret u, h =>
    obtain ⟨v, σ', H', J, rv, q2⟩ := h
    exact ⟨v, H', J.os, J.bare, J.base, J.hok, rv, q2⟩
  | .next, h =>
    obtain ⟨σ', H', J, q2⟩ := h
    exact ⟨V.non, H', J.os, J.bare, J.base, J.hok, rfl, q2⟩
  | .brk, h =>
    obtain ⟨_, _, _, q2⟩ := h
    exact False.elim q2
  | .cont, h =>
    obtain ⟨_, _, _, q2⟩ := h
    exact False.elim q2
/-- a def of the text, behind the top -/
abbrev Fun (K : PySem.W.Frag) (x qual : Str) (st : Stmt) (f : Addr) (fd : FuncData) : Prop := L2.Fun K x qual st f fd
section
variable {P : Program} {w : World} {K : PySem.W.Frag} {mg : Str → Option Value} {base : Heap} {x qual : Str} {st : Stmt} {f : Addr} {fd : FuncData} {N ps : List Str} {k : Nat} {sp : Sp}
/-- THE RULE for a def: its body as a term of rules, and the reading of that term -/
theorem Fun.ok (F : Fun K x qual st f fd) (S : FnScope N ps (defScope st)) (len : ∀ vs H Q E, sp vs H Q E → vs.length = ps.length)
    (hbody : ∀ (cdv : Value) (A : Around) (outer : List Env) (s : Shared) (H : Hp) (vs : List V) (Q : VK) (E : XK), Room k (A.deeper (envOfC qual (defScope st) s.heap.objs.size f cdv)) → sp vs H Q E →
      ∃ t, PSs (cxOf CX0 P w K mg base N qual (defScope st) f cdv A outer s H E).nox (defBody st) t ∧ t { nx := fun _ H' => Q .non H', rt := Q } (start N vs) H) : FnOk P w K mg base CX0 (k + 1) f fd ps sp := by
  obtain ⟨oc, od, kV, doc, pm, an, cdv, ct, osl, rfl, lk, hcd⟩ := L2.Fun.ex F
  exact fn_of lk hcd S len fun A outer s H vs Q E room q => by
    obtain ⟨t, h1, h2⟩ := hbody cdv A outer s H vs Q E room q
    exact ⟨t, h1.nox, h2⟩
/-- .. for a def with defaults -/
theorem okD {dvs : List V} (F : FunD K x qual (defArgs st) (defBody st) (defScope st) dvs [] f fd) (S : FnScope N ps (defScope st)) (len : ∀ vs H Q E, sp vs H Q E → vs.length = ps.length)
    (hbody : ∀ (cdv : Value) (A : Around) (outer : List Env) (s : Shared) (H : Hp) (vs : List V) (Q : VK) (E : XK), Room k (A.deeper (envOfC qual (defScope st) s.heap.objs.size f cdv)) → sp vs H Q E →
      ∃ t, PSs (cxOf CX0 P w K mg base N qual (defScope st) f cdv A outer s H E).nox (defBody st) t ∧ t { nx := fun _ H' => Q .non H', rt := Q } (start N vs) H) : FnOk P w K mg base CX0 (k + 1) f fd ps sp := by
  obtain ⟨oc, od, dV, kV, doc, pm, an, cdv, ct, osl, rfl, lk, hcd, _, _⟩ := F.ex
  exact fn_of lk hcd S len fun A outer s H vs Q E room q => by
    obtain ⟨t, h1, h2⟩ := hbody cdv A outer s H vs Q E room q
    exact ⟨t, h1.nox, h2⟩
end
end TW
set_option Elab.async false
set_option linter.all false
set_option maxRecDepth 100000
set_option maxHeartbeats 4000000
/-! repr of told data -/
namespace TW
open PySem PySem.Spec PyProof.Rows L2
/-- a list with items, or a tuple -/
def reprOk : PyData → Bool
  | .list (_ :: _) => true
  | .tuple _ => true
  | _ => false
theorem call_repr_reads {prog : Program} {w : World} {A : Around} {E : Value → Shared → Prop} {s : Shared} {Q : Value → Shared → Prop} : ∀ {v : Value} {d : PyData} {as : List Addr}, Reads s.heap v d as → reprOk d = true → d.showable = true → d.hasDict = false → d.shown.length ≤ sizeLine → A.guards = some [] → A.units + d.depth + 2 < cLine →
    (∀ h' u tk, (∀ b o, s.heap.get? b = some o → h'.get? b = some o) → Q (.str d.shown u) { s with heap := h', toks := tk }) → wpAny (model prog w) A (call (.builtin "repr") [v]) Q E s
  | _, _, _, .list (a := a) (vs := vs) (xs := xs) h1 h2 h3 h4, ok, hs, nd, hz, hg, hu, q => by
    have hz' : (listText (PyData.shownAll xs)).length ≤ sizeLine := by simpa only [PyData.shown] using hz
    obtain ⟨bs, hb, hk⟩ := ReprAllK.of_readsAll (prog := prog) (w := w) h4 (by simpa [PyData.showable] using hs) (fun hx => by rw [show PyData.hasDictAll xs = false by simpa [PyData.hasDict] using nd] at hx; cases hx) (fun t ht => Nat.le_trans (listText_mem_le ht) hz')
    have r : Reads s.heap (.ref a) (.list xs) _ := .list h1 h2 h3 h4
    have hna : a ∉ bs := not_mem_of_deeper r (by simp only [PyData.depth]; omega) hb
    simp only [PyData.depth] at hu
    simp only [PyData.shown] at q
    obtain ⟨l⟩ := vs
    cases l with
    | nil =>
      have h4' : ReadsAll s.heap [] xs _ := h4
      cases h4'
      cases ok
    | cons x l =>
      exact call_repr_slot (by omega) ⟨_, h1, h2⟩ F.slot_list_repr.toG (call_list_reprK h1 h2 h3 hna (by simpa using hk.length_eq) (fun i y e => hk.item i y (by simpa using e)) hg (fun b _ => Clear.nil b) (by show A.units + 1 + _ < _; omega) (fun _ _ e => e) (fun h' u tk hk' => ⟨_, _, rfl, q h' u tk hk'⟩) hz')
  | _, _, _, .tuple (a := a) (xs := xs) h1 h2 h3 h4, ok, hs, nd, hz, hg, hu, q => by
    have hz' : (tupleText (PyData.shownAll xs)).length ≤ sizeLine := by simpa only [PyData.shown] using hz
    obtain ⟨bs, hb, hk⟩ := ReprAllK.of_readsAll (prog := prog) (w := w) h4 (by simpa [PyData.showable] using hs) (fun hx => by rw [show PyData.hasDictAll xs = false by simpa [PyData.hasDict] using nd] at hx; cases hx) (fun t ht => Nat.le_trans (tupleText_mem_le ht) hz')
    have r : Reads s.heap (.ref a) (.tuple xs) _ := .tuple h1 h2 h3 h4
    have hna : a ∉ bs := not_mem_of_deeper r (by simp only [PyData.depth]; omega) hb
    simp only [PyData.depth] at hu
    simp only [PyData.shown] at q
    exact call_repr_slot (by omega) ⟨_, h1, h2⟩ F.slot_tuple_repr (call_tuple_reprK h1 h2 h3 hna hk hg (fun b _ => Clear.nil b) (by show A.units + 1 + _ < _; omega) (fun _ _ e => e) (fun h' u tk hk' => ⟨_, _, rfl, q h' u tk hk'⟩) hz')
  | _, _, _, .none, ok, _, _, _, _, _, _ => by cases ok
  | _, _, _, .bool _, ok, _, _, _, _, _, _ => by cases ok
  | _, _, _, .int _ _, ok, _, _, _, _, _, _ => by cases ok
  | _, _, _, .str _ _, ok, _, _, _, _, _, _ => by cases ok
  | _, _, _, .dict _ _ _ _ _, ok, _, _, _, _, _, _ => by cases ok
structure rReprD (K : PySem.W.Frag) (xs : List V) (H : Hp) (Q : VK) : Prop where
  r : ∃ (x : V) (d : PyData), xs = [x] ∧ Dp K H x d ∧ reprOk d = true ∧ d.showable = true ∧ d.hasDict = false ∧ d.depth ≤ 50 ∧ d.shown.length ≤ sizeLine ∧ Q (.str d.shown) H
theorem cr_repr {X : Cx} (K : PySem.W.Frag) (hg : X.A.guards = some []) (hu : X.A.units + 64 < cLine) (hK : X.K = K := by rfl) : CallR X (.builtin "repr") (rReprD K) := by
  subst hK
  intro pins s σ H xs us Q I r h
  obtain ⟨x, d, rfl, hd, ok, sh, nd, dp, hz, q⟩ := h.r
  obtain ⟨u, rfl, ru⟩ := vals1 r
  obtain ⟨as, rd⟩ := Dp.reads I d x u hd ru
  exact call_repr_reads rd ok sh nd hz hg (by omega) fun h' t tk k => ⟨.str d.shown, H, I.kept k, ⟨t, rfl⟩, q⟩
theorem bt_repr : bootBuiltins "repr" = some (.builtin "repr") := by decide +kernel
end TW
set_option Elab.async false
set_option linter.all false
set_option maxRecDepth 100000
set_option maxHeartbeats 4000000
/-! the rules in the words of the generator -/
namespace TW
open PySem PySem.Spec PyProof.Rows L2 RZ StX
open Evl (Ex)

theorem hu16_of {A : Around} {k : Nat} (hr : Room k A) : A.units + 16 < cLine := by have := hr.units; omega
theorem hu8_of {A : Around} {k : Nat} (hr : Room k A) : A.units + 8 < cLine := by have := hr.units; omega
/-! questions that are asked by their name -/
structure rIxD (K : PySem.W.Frag) (x y : V) (H : Hp) (Q : VK) : Prop where
  r : rIxL K x y H Q ∨ rIxT K x y H Q
structure rSlD (K : PySem.W.Frag) (x : V) (lo hi : Option Int) (H : Hp) (Q : VK) : Prop where
  r : rSlL K x lo hi H Q ∨ rSlA K x lo hi H Q
structure rLenD (K : PySem.W.Frag) (xs : List V) (H : Hp) (Q : VK) : Prop where
  r : ∃ p ys, xs = [.ref p] ∧ (SqL K H p ys ∨ SqT K H p ys) ∧ Q (.int ys.length) H
structure rTupD (K : PySem.W.Frag) (xs : List V) (H : Hp) (Q : VK) : Prop where
  r : ∃ p ys, xs = [.ref p] ∧ ((SqL K H p ys ∧ ∀ l, H l = none → Q (.ref l) (upd H l (.tup ys))) ∨ (SqT K H p ys ∧ Q (.ref p) H))
structure rLisD (K : PySem.W.Frag) (xs : List V) (H : Hp) (Q : VK) : Prop where
  r : ∃ p ys, xs = [.ref p] ∧ (SqL K H p ys ∨ SqT K H p ys) ∧ ∀ l, H l = none → Q (.ref l) (upd H l (.lst ys))
structure rIsiD (K : PySem.W.Frag) (xs : List V) (H : Hp) (Q : VK) : Prop where
  r : rIsi K xs H Q
structure rIsiTD (K : PySem.W.Frag) (xs : List V) (H : Hp) (Q : VK) : Prop where
  r : rIsiT K xs H Q
structure rAllD (K : PySem.W.Frag) (xs : List V) (H : Hp) (Q : VK) : Prop where
  r : rAll K xs H Q
structure rAnyD (K : PySem.W.Frag) (xs : List V) (H : Hp) (Q : VK) : Prop where
  r : rAny K xs H Q
structure rEqDD (K : PySem.W.Frag) (x y : V) (H : Hp) (Q : VK) : Prop where
  r : rEqD K x y H Q
structure rInD (K : PySem.W.Frag) (neg : Bool) (x y : V) (H : Hp) (Q : VK) : Prop where
  r : rIn K neg x y H Q
structure rLenS (xs : List V) (H : Hp) (Q : VK) : Prop where
  r : ∃ x : Str, xs = [.str x] ∧ x.length ≤ sizeLine ∧ Q (.int x.length) H
structure rInS (x y : V) (H : Hp) (Q : VK) : Prop where
  r : ∃ i j, x = .str i ∧ y = .str j ∧ Q (.bl (!(Builtin.Str.occurrences j i 0 j.length 1).isEmpty)) H
structure rNeDD (K : PySem.W.Frag) (x y : V) (H : Hp) (Q : VK) : Prop where
  r : rNeD K x y H Q
theorem bt_isinstance : bootBuiltins "isinstance" = some (.builtin "isinstance") := by decide +kernel
theorem bt_len : bootBuiltins "len" = some (.builtin "len") := by decide +kernel
theorem bt_all : bootBuiltins "all" = some (.builtin "all") := by decide +kernel
theorem bt_any : bootBuiltins "any" = some (.builtin "any") := by decide +kernel
theorem bt_sorted : bootBuiltins "sorted" = some (.builtin "sorted") := by decide +kernel
theorem bt_abs : bootBuiltins "abs" = some (.builtin "abs") := by decide +kernel
theorem bt_int : bootBuiltins "int" = some (.type "int") := by decide +kernel
theorem bt_str : bootBuiltins "str" = some (.type "str") := by decide +kernel
theorem bt_bool : bootBuiltins "bool" = some (.type "bool") := by decide +kernel
theorem bt_list : bootBuiltins "list" = some (.type "list") := by decide +kernel
theorem bt_tuple : bootBuiltins "tuple" = some (.type "tuple") := by decide +kernel
theorem bt_dict : bootBuiltins "dict" = some (.type "dict") := by decide +kernel
theorem bt_set : bootBuiltins "set" = some (.type "set") := by decide +kernel
theorem bt_range : bootBuiltins "range" = some (.type "range") := by decide +kernel
theorem bt_zip : bootBuiltins "zip" = some (.type "zip") := by decide +kernel
theorem bt_enumerate : bootBuiltins "enumerate" = some (.type "enumerate") := by decide +kernel
section
variable {X : Cx}
theorem zg {i : Nat} {x : Str} {pos : Pos} (hN : X.N.Nodup) (hi : X.N[i]? = some x := by rfl) (hx : Loc X.env.scope x := by first | exact Or.inl rfl | exact Or.inr rfl) (hf : X.fn x = true ∨ X.env.scope.names.lookup x = some .local := by first | exact Or.inl rfl | exact Or.inr rfl) : PG X (.Name x pos) (gName i) := pg_name hN hi hx hf
theorem zs {i : Nat} {x : Str} {e : Expr} {te : TE} {pos pos' : Pos} (hN : X.N.Nodup) (he : PE X e te) (hi : X.N[i]? = some x := by rfl) (hx : Loc X.env.scope x := by first | exact Or.inl rfl | exact Or.inr rfl) (hs : swapsWith e (some (.Name x pos')) pos.line X.env = pure false := by rfl)
    (hf : X.fn x = true ∨ X.env.scope.names.lookup x = some .local := by first | exact Or.inl rfl | exact Or.inr rfl) : PS X (.Assign [.Name x pos'] e pos) (tAsg te (gName i)) := ps_set hN hi hx he hs hf
theorem zpar {i j : Nat} {x y : Str} {a b : Expr} {ta : TA} {px py pt pos : Pos} {kt k2 pt2} (hN : X.N.Nodup) (ha : PA X [a, b] ta) (hc : X.calm = true := by rfl) (hi : X.N[i]? = some x := by rfl) (hj : X.N[j]? = some y := by rfl) (hij : i ≠ j := by decide)
    (hx : X.env.scope.names.lookup x = some .local := by rfl) (hy : X.env.scope.names.lookup y = some .local := by rfl)
    (hw : swappedStores [.Tuple [.Name x px, .Name y py] kt pt] (.Tuple [a, b] k2 pt2) X.env = pure (some [x, y]) := by rfl)
    (hs : swapsWithSole [.Tuple [.Name x px, .Name y py] kt pt] (.Tuple [a, b] k2 pt2) pos.line X.env = pure false := by rfl) :
    PS X (.Assign [.Tuple [.Name x px, .Name y py] kt pt] (.Tuple [a, b] k2 pt2) pos) (tPar i j ta) := ps_par hc hN hi hj hij hx hy ha hw hs
theorem zpar3 {i j l : Nat} {x y z : Str} {a b c : Expr} {ta : TA} {px py pz pt pos : Pos} {kt k2 pt2} (hN : X.N.Nodup) (ha : PA X [a, b, c] ta) (hc : X.calm = true := by rfl) (hi : X.N[i]? = some x := by rfl) (hj : X.N[j]? = some y := by rfl) (hl : X.N[l]? = some z := by rfl)
    (hij : i ≠ j := by decide) (hil : i ≠ l := by decide) (hjl : j ≠ l := by decide) (hx : X.env.scope.names.lookup x = some .local := by rfl) (hy : X.env.scope.names.lookup y = some .local := by rfl) (hz : X.env.scope.names.lookup z = some .local := by rfl)
    (hw : swappedStores [.Tuple [.Name x px, .Name y py, .Name z pz] kt pt] (.Tuple [a, b, c] k2 pt2) X.env = pure (some [x, y, z]) := by rfl)
    (hs : swapsWithSole [.Tuple [.Name x px, .Name y py, .Name z pz] kt pt] (.Tuple [a, b, c] k2 pt2) pos.line X.env = pure false := by rfl) :
    PS X (.Assign [.Tuple [.Name x px, .Name y py, .Name z pz] kt pt] (.Tuple [a, b, c] k2 pt2) pos) (tPar3 i j l ta) := ps_par3 hc hN hi hj hl hij hil hjl hx hy hz ha hw hs
theorem zty {x : Str} {n : String} {pos : Pos} (hm : X.mg x = none) (hv : bootBuiltins x = some (.type n)) (hg : Gl X x := by rfl) (hn : x ≠ "__name__" := by decide) (hd : (x == ("__debug__" : Str)) = false := by decide) : PE X (.Name x pos) (tC (.ty n)) := pe_bltn hg hm hv rfl hn hd
theorem zown {x : Str} {C : Addr} {pos : Pos} (hm : X.mg x = some (.ref C)) (hg : Gl X x := by rfl) (hd : (x == ("__debug__" : Str)) = false := by decide) : PE X (.Name x pos) (tC (.ref C)) := pe_glob hg hm rfl hd
/-- a list's or a tuple's item -/
theorem ix_LT (K : PySem.W.Frag) (hK : X.K = K := by rfl) : IxR X (rIxD K) := by
  subst hK; exact fun a b pins s σ H x y v u Q I rx ry h hs => (ix_list.or ix_tup) a b pins s σ H x y v u Q I rx ry h.r hs
theorem sl_LA (K : PySem.W.Frag) (hK : X.K = K := by rfl) : SlR X (rSlD K) := by
  subst hK; exact fun pins s σ H x v vl vu lo hi sl Q I rx hs pl pu h => (sl_list.or sl_tupA) pins s σ H x v vl vu lo hi sl Q I rx hs pl pu h.r
theorem cr_len (K : PySem.W.Frag) (hK : X.K = K := by rfl) : CallR X (.builtin "len") (rLenD K) := by subst hK; exact fun pins s σ H vs us Q I r h => call_len_seq pins s σ H vs us Q I r h.r
theorem cr_tuple (K : PySem.W.Frag) (hK : X.K = K := by rfl) : CallR X (.type "tuple") (rTupD K) := by subst hK; exact fun pins s σ H vs us Q I r h => call_tuple_of pins s σ H vs us Q I r h.r
theorem cr_list (K : PySem.W.Frag) (hK : X.K = K := by rfl) : CallR X (.type "list") (rLisD K) := by subst hK; exact fun pins s σ H vs us Q I r h => call_list_of pins s σ H vs us Q I r h.r
theorem cr_isi (K : PySem.W.Frag) (hK : X.K = K := by rfl) : CallR X (.builtin "isinstance") (rIsiD K) := by subst hK; exact fun pins s σ H vs us Q I r h => call_isi pins s σ H vs us Q I r h.r
theorem cr_isiT' (K : PySem.W.Frag) (hK : X.K = K := by rfl) : CallR X (.builtin "isinstance") (rIsiTD K) := by subst hK; exact fun pins s σ H vs us Q I r h => call_isiT pins s σ H vs us Q I r h.r
theorem cr_allD (K : PySem.W.Frag) (hc : X.calm = true := by rfl) (hK : X.K = K := by rfl) : CallR X (.builtin "all") (rAllD K) := by subst hK; exact fun pins s σ H vs us Q I r h => cr_all hc pins s σ H vs us Q I r h.r
theorem cr_anyD (K : PySem.W.Frag) (hc : X.calm = true := by rfl) (hK : X.K = K := by rfl) : CallR X (.builtin "any") (rAnyD K) := by subst hK; exact fun pins s σ H vs us Q I r h => cr_any hc pins s σ H vs us Q I r h.r
theorem op_eqDD (K : PySem.W.Frag) (hu : X.A.units + 64 < cLine) (hK : X.K = K := by rfl) : OpR X (compareOp .Eq) (rEqDD K) := by subst hK; exact fun pins s σ H x y v u Q I rx ry h => op_eqD hu pins s σ H x y v u Q I rx ry h.r
theorem op_neDD (K : PySem.W.Frag) (hu : X.A.units + 64 < cLine) (hK : X.K = K := by rfl) : OpR X (compareOp .NotEq) (rNeDD K) := by subst hK; exact fun pins s σ H x y v u Q I rx ry h => op_neD hu pins s σ H x y v u Q I rx ry h.r
theorem op_inK (K : PySem.W.Frag) (hK : X.K = K := by rfl) : OpR X (compareOp .In) (rInD K false) := by subst hK; exact fun pins s σ H x y v u Q I rx ry h => op_in_seq pins s σ H x y v u Q I rx ry h.r
theorem op_niK (K : PySem.W.Frag) (hK : X.K = K := by rfl) : OpR X (compareOp .NotIn) (rInD K true) := by subst hK; exact fun pins s σ H x y v u Q I rx ry h => op_notIn_seq pins s σ H x y v u Q I rx ry h.r
theorem cr_lenS : CallR X (.builtin "len") rLenS := fun pins s σ H vs us Q I r ⟨⟨x, e, h, q⟩⟩ => call_len pins s σ H vs us Q I r ⟨.str x, x.length, e, ⟨h, rfl⟩, q⟩
theorem op_inS : OpR X (compareOp .In) rInS := fun pins s σ H x y v u Q I rx ry h => op_in_str pins s σ H x y v u Q I rx ry h.r
theorem zpg {es : List Expr} {k : Nat} {t : TGs} {n : Nat} {pos : Pos} (K : PySem.W.Frag) (h : PGs X es t) (hc : X.calm = true := by rfl) (hK : X.K = K := by rfl) (hn : (assignEach es X.env).length = n := by rfl) (hst : (assignEach es X.env).findIdx? (·.1) = none := by rfl) : PG X (.Tuple es k pos) (gTup K n t) := by
  subst hK; exact pg_tup hc h hn hst
theorem zfld {e : Expr} {ta : TE} {f : Str} {pos : Pos} (K : PySem.W.Frag) (he : PE X e ta) (hK : X.K = K := by rfl) (hb : attributeBase e f X.env (eval e X.env) = eval e X.env := by rfl) : PE X (.Attribute e f pos) (tFld K ta f) := by subst hK; exact pe_fld he hb
theorem zseq {tg e : Expr} {te : TE} (K : PySem.W.Frag) (he : PE X e te) (hK : X.K = K := by rfl) : PI X tg e (iSeq K te) := by subst hK; exact pi_seq he
theorem ztruth {a : Expr} {ta : TE} (K : PySem.W.Frag) (ha : PE X a ta) (hK : X.K = K := by rfl) (he : ∀ whole, isTrue a X.env whole = (do let v ← whole; standAt a.pos; holding [v] (truthy v)) := by intro _; rfl) : PT X a (fun σ H Q => ta σ H fun x H' => ∃ k, TruV K x H' k ∧ Q k H') := by
  subst hK; exact pt_truth ha he
theorem zstar {e : Expr} {es : List Expr} {te : TE} {t : TA} {p : Pos} (K : PySem.W.Frag) (he : PE X e te) (hr : PA X es t) (hK : X.K = K := by rfl) (hs : starEach (.Starred e p :: es) X.env = (true, eval e X.env) :: starEach es X.env := by rfl) : PA X (.Starred e p :: es) (tStar K te t) := by
  subst hK; exact pa_star he hr hs
theorem m2_of {o e f : Expr} {m : Str} {apos cpos : Pos} (base : attributeBase o m X.env (eval o X.env) = eval o X.env := by rfl)
    (few : ((backTo cpos (starEach [e, f] X.env)).all (fun x => !x.1) && (backToKw cpos (keywordEach [] X.env)).all (fun x => x.1.isSome) && decide (([e, f] : List Expr).length + ([] : List Keyword).length + (if ([] : List Keyword).isEmpty then 0 else 1) < 30)) = true := by rfl)
    (line : (apos.endLine == cpos.line) = true := by rfl) (trees : backTo cpos (starEach [e, f] X.env) = [(false, eval e X.env), (false, eval f X.env)] := by rfl) : M2 X o m apos e f cpos := ⟨base, few, line, trees⟩
end

section
open PySem.W
/-- sorted(xs), xs a list of data that can be ordered -/
def rSortedD (K : PySem.W.Frag) : List V → Hp → VK → Prop := fun vs H Q => ∃ (β : Type) (enc : β → PyData) (bs : List β) (a : Addr) (xs : List V) (F : Hp), vs = [.ref a] ∧ Sees F H ∧ SqL K H a xs ∧ DpAll K F xs (bs.map enc) ∧ AllAlike (bs.map enc) ∧ Sortable (bs.map enc) ∧
  (∀ b ∈ bs, (enc b).depth ≤ 8) ∧ ∀ (ys : List V) p, DpAll K F ys ((bs.mergeSort (dataLe false enc)).map enc) → H p = none → Q (.ref p) (upd H p (.lst ys))
variable {X : Cx}
theorem cr_sortedD (K : PySem.W.Frag) (hu : X.A.units + 16 < cLine) (hK : X.K = K := by rfl) : CallR X (.builtin "sorted") (rSortedD K) := by
  subst hK
  intro pins s σ H vs us Q I r h
  obtain ⟨β, enc, bs, a, xs, F, rfl, hse, hs, hd, hal, hso, hdep, q⟩ := h
  rw [Vals.ref1 r]
  obtain ⟨its, rv, pl, hz⟩ := I.list hs
  have e1 : EachIs (fun u b => ∃ v, L2.RelV v u ∧ Dp X.K F v (enc b)) its bs := each_dp hd rv
  have e2 : EachIs (fun v b => ∃ as, Reads s.heap v (enc b) as) its bs := e1.mono fun u b ⟨v, r, d⟩ => Dp.reads I (enc b) v u (Dp.sees hse d) r
  refine sorted_data pl.isList e1 e2 hal hso (by rw [← e1.length, ← rv.length]; exact hz) (fun b hb => by have := hdep b hb; omega) fun out ho he => ?_
  obtain ⟨ys, hv, hy⟩ := dpAll_map he
  obtain ⟨ep, he'⟩ := PyProof.Rows.sortedAll_at s.heap its out.toArray
  have hlen : ys.length ≤ sizeLine := by rw [hv.length, ho, ← e1.length, ← rv.length]; exact hz
  exact ⟨.ref _, upd H (s.heap.objs.size + 1) (.lst ys), I.laid (t' := s.toks) (fun _ _ => PyProof.Rows.sortedAll_old) (Nat.le_succ _) ⟨hlen, out, ep, hv, he'⟩, rfl, q ys _ hy (I.hok.fresh (Nat.le_succ _))⟩
end
theorem iteNo {c A B : Prop} [Decidable c] (hc : ¬ c) (h : B) : if c then A else B := by rw [if_neg hc]; exact h
theorem iteYes {c A B : Prop} [Decidable c] (hc : c) (h : A) : if c then A else B := by rw [if_pos hc]; exact h
theorem keys_int (L : List Int) : (L.map Sum.inl : List Key).map kV = L.map V.int := by rw [List.map_map]; rfl
theorem keys_str (L : List Str) : (L.map Sum.inr : List Key).map kV = L.map V.str := by rw [List.map_map]; rfl
/-! ### what a def, a method, a class of the text is for its callers -/
section
variable (P : Program) (w : World) (K : PySem.W.Frag) (mg : Str → Option Value) (base : Heap)
/-- the def named x keeps sp at level k -/
structure Cal (x : Str) (k : Nat) (ps : List Str) (dvs : List V) (sp : Sp) : Prop where
  ex : ∃ (f : Addr) (fd : FuncData) (ds : List Value), mg x = some (.ref f) ∧ PySem.W.keepIn K (.ref f) = true ∧ Vals dvs ds ∧ Binds K fd ps ds ∧ FnOk P w K mg base CX0 k f fd ps sp
/-- the method m of the class at C -/
structure Met (C : Addr) (m : Str) (k : Nat) (ps : List Str) (sp : Sp) : Prop where
  cl : Cls K C
  ex : ∃ (f : Addr) (fd : FuncData), Meth K C m f ∧ Binds K fd ps [] ∧ FnOk P w K mg base CX0 k f fd ps sp
/-- the class named x, at C, made by its __init__ -/
structure Mkr (x : Str) (C : Addr) (k : Nat) (ps : List Str) (sp : Sp) : Prop where
  ex : ∃ (f : Addr) (fd : FuncData), mg x = some (.ref C) ∧ Mk K C f ∧ Binds K fd ps [] ∧ FnOk P w K mg base CX0 k f fd ps sp
end
section
variable {X : Cx} {x m : Str} {p pos apos : Pos} {o e : Expr} {es : List Expr} {t : TA} {ta : TE} {k : Nat} {C : Addr} {ps : List Str} {dvs : List V} {sp : Sp}
theorem pe_cal (c : Cal X.prog X.w X.K X.mg X.base x k ps dvs sp) (hr : Room k X.A) (ha : PA X (e :: es) t) (hg : Gl X x := by rfl) (hdb : (x == ("__debug__" : Str)) = false := by decide)
    (he : starEach (e :: es) X.env = (false, eval e X.env) :: starEach es X.env := by rfl) (hpl : (backTo pos (starEach es X.env)).any (·.1) = false := by rfl) : PE X (.Call (.Name x p) (e :: es) [] pos) (tCall sp dvs E0 t) := by
  obtain ⟨f, fd, ds, hm, hk, hd, hb, F⟩ := c.ex
  exact pe_call F hr hg hm hk hb hd pass0 ha hdb he hpl
theorem pe_cal0 (c : Cal X.prog X.w X.K X.mg X.base x k ps dvs sp) (hr : Room k X.A) (hg : Gl X x := by rfl) (hdb : (x == ("__debug__" : Str)) = false := by decide) : PE X (.Call (.Name x p) [] [] pos) (tCall sp dvs E0 tNil) := by
  obtain ⟨f, fd, ds, hm, hk, hd, hb, F⟩ := c.ex
  exact pe_call0 F hr hg hm hk hb hd pass0 hdb
theorem pe_me {pl : Sem Bool} (c : Met X.prog X.w X.K X.mg X.base C m k ps sp) (hr : Room k X.A) (he : PE X o ta) (ha : PA X (e :: es) t)
    (hst : starEach (e :: es) X.env = (false, eval e X.env) :: starEach es X.env := by rfl) (hpl : (backTo pos (starEach es X.env)).any (·.1) = false := by rfl)
    (ht : eval (.Call (.Attribute o m apos) (e :: es) [] pos) X.env = (do
      let ov ← eval o X.env
      standAt apos.atName
      let (f, first) ← holding [ov] (getMethod ov m pl)
      callWith pos f first (backTo pos (starEach (e :: es) X.env)) (backToKw pos (keywordEach [] X.env))) := by rfl) : PE X (.Call (.Attribute o m apos) (e :: es) [] pos) (tMeth C m sp [] E0 ta t) := by
  obtain ⟨f, fd, hm, hb, F⟩ := c.ex
  exact pe_meth (pl := pl) he c.cl hm F hr hb .nil pass0 ha hst hpl ht
theorem pe_me0 {pl : Sem Bool} (c : Met X.prog X.w X.K X.mg X.base C m k ps sp) (hr : Room k X.A) (he : PE X o ta)
    (ht : eval (.Call (.Attribute o m apos) [] [] pos) X.env = (do
      let ov ← eval o X.env
      standAt apos.atName
      let (f, first) ← holding [ov] (getMethod ov m pl)
      callWith pos f first (backTo pos (starEach [] X.env)) (backToKw pos (keywordEach [] X.env))) := by rfl) : PE X (.Call (.Attribute o m apos) [] [] pos) (tMeth C m sp [] E0 ta tNil) := by
  obtain ⟨f, fd, hm, hb, F⟩ := c.ex
  exact pe_meth0 (pl := pl) he c.cl hm F hr hb .nil pass0 ht
theorem pe_mk (c : Mkr X.prog X.w X.K X.mg X.base x C k ps sp) (hr : Room (k + 1) X.A) (ha : PA X (e :: es) t) (hg : Gl X x := by rfl) (hdb : (x == ("__debug__" : Str)) = false := by decide)
    (he : starEach (e :: es) X.env = (false, eval e X.env) :: starEach es X.env := by rfl) (hpl : (backTo pos (starEach es X.env)).any (·.1) = false := by rfl) : PE X (.Call (.Name x p) (e :: es) [] pos) (tMake C sp [] E0 t) := by
  obtain ⟨f, fd, hm, hk, hb, F⟩ := c.ex
  exact pe_make hk F hr hg hm hb .nil pass0 ha hdb he hpl
end

/-! ### isinstance of data -/
section
variable {K : PySem.W.Frag} {H : Hp}
def tyName : PyData → String
  | .none => "NoneType"
  | .bool _ => "bool"
  | .int _ => "int"
  | .str _ => "str"
  | .list _ => "list"
  | .tuple _ => "tuple"
  | .dict _ => "dict"
theorem ty_dp {v : V} {d : PyData} (h : Dp K H v d) : TyX K H v (.type (tyName d)) := by
  cases h with
  | non => exact .base .non
  | bl b => exact .base (.bl b)
  | int i => exact .base (.int i)
  | str x => exact .base (.str x)
  | lst h q =>
    rcases h with (h | ⟨o, h⟩) | ⟨o, its, n, hk, hc, _⟩
    · exact .base (.lst h)
    · exact .base (.frz h)
    · exact .kList hk hc
  | tup h q =>
    rcases h with (h | ⟨o, h⟩) | ⟨o, its, n, hk, hc, _⟩
    · exact .base (.tup h)
    · exact .fTuple h
    · exact .kTuple hk hc
/-- isinstance(x, (T, U)), x data -/
theorem isiT_dp {v : V} {d : PyData} {T U : String} {p : Addr} {b : Bool} {Q : VK} (h : Dp K H v d) (hp : H p = some (.tup [.ty T, .ty U])) (hb : PySem.W.kitAny K (.type (tyName d)) [.type T, .type U] = some b) (q : Q (.bl b) H) : rIsiTD K [v, .ref p] H Q :=
  .mk ⟨v, p, [.ty T, .ty U], .type (tyName d), [.type T, .type U], b, rfl, hp, .cons (.ty T) (.cons (.ty U) .nil), ty_dp h, hb, q⟩
/-- isinstance(x, T), x data -/
theorem isi_dp {v : V} {d : PyData} {T : String} {b : Bool} {Q : VK} (h : Dp K H v d) (hb : kitB (tyName d) T = some b) (q : Q (.bl b) H) : rIsiD K [v, .ty T] H Q :=
  .mk ⟨v, .ty T, .type (tyName d), .type T, b, rfl, .ty T, ty_dp h, kit_ty hb, q⟩
end
end TW
set_option Elab.async false
set_option linter.all false
set_option maxRecDepth 100000
set_option maxHeartbeats 4000000
/-! data walked, cut, paired -/
namespace TW
open PySem PySem.Spec PyProof.Rows L2 RZ StX
open Evl (Ex)
section
variable {K : PySem.W.Frag} {F H : Hp}
/-- two data of one kind of sequence -/
def twin (d e : PyData) (ds es : List PyData) : Prop := (d = .list ds ∧ e = .list es) ∨ (d = .tuple ds ∧ e = .tuple es)
theorem twin.l {d e : PyData} {ds es : List PyData} (h : twin d e ds es) : isSeq d ds := h.elim (fun z => .inl z.1) fun z => .inr z.1
theorem twin.r {d e : PyData} {ds es : List PyData} (h : twin d e ds es) : isSeq e es := h.elim (fun z => .inl z.2) fun z => .inr z.2
/-- a walk over data -/
theorem seq_walk {v : V} {d : PyData} {ds : List PyData} {R : It → Hp → Prop} (hd : Dp K F v d) (hq : isSeq d ds) (s : Sees F H)
    (k : ∀ J xs G, Walk J xs.length G (YAt xs) → (∀ H', Sees F H' → G H') → DpAll K F xs ds → xs.length = ds.length → R J H) : rSeq K v H R := by
  obtain ⟨a, xs, rfl, h, q⟩ := dp_seq hd hq
  rcases h with h | h
  · exact .mk ⟨a, xs, rfl, .inl ⟨sees_l s h, k _ xs _ walk_list (fun H' z => sees_l z h) q q.length⟩⟩
  · exact .mk ⟨a, xs, rfl, .inr ⟨sees_t s h, k _ xs _ walk_tup (fun H' z => sees_t z h) q q.length⟩⟩
theorem walk_zipT {a b : Addr} {xs ys : List V} {n : Nat} (hn : n = min xs.length ys.length) : Walk (ItzT K a b) n (fun H => SqT K H a xs ∧ SqT K H b ys) (YPair (fun i => xs[i]?) (fun i => ys[i]?)) := by
  subst hn
  refine ⟨fun i _ hi q => ?_, fun _ q => ⟨xs, ys, q.1, q.2, by omega⟩, fun i H v H' _ q y => ?_⟩
  · have h1 : i < xs.length := by omega
    have h2 : i < ys.length := by omega
    exact ⟨xs, ys, xs[i], ys[i], q.1, q.2, by simp [h1], by simp [h2]⟩
  · obtain ⟨T, x, z, h1, h2, h3, h4, h5⟩ := y
    exact ⟨T, x, z, h1, h2, h3, h4 xs q.1, h5 ys q.2⟩
structure rZip (K : PySem.W.Frag) (vs : List V) (H : Hp) (R : It → Hp → Prop) : Prop where
  r : ∃ a b xs ys, vs = [.ref a, .ref b] ∧ ((SqL K H a xs ∧ SqL K H b ys ∧ R (Itz K a b) H) ∨ (SqT K H a xs ∧ SqT K H b ys ∧ R (ItzT K a b) H))
def iZipD (K : PySem.W.Frag) (ta : TA) : TI := fun σ H R => ta σ H fun vs H1 => rZip K vs H1 R
/-- a reading that may be weakened -/
def upA (ta : TA) : TA := fun σ H Q => ∃ Q0, ta σ H Q0 ∧ ∀ vs H1, Q0 vs H1 → Q vs H1
theorem pa_up {X : Cx} {es : List Expr} {ta : TA} (h : PA X es ta) : PA X es (upA ta) := by
  refine ⟨fun pos pins s σ H Q I q => ?_⟩
  obtain ⟨Q0, h1, h2⟩ := q
  refine thn (h.run pos pins s σ H Q0 I h1) fun us s1 q1 => ?_
  obtain ⟨vs, H', I', r, q2⟩ := q1
  exact ⟨vs, H', I', r, h2 _ _ q2⟩
theorem pi_zipD {X : Cx} {e e2 : Expr} {ta : TA} {p pos tpos : Pos} {elts : List Expr} {kk : Nat} (K : PySem.W.Frag) (hm : X.mg "zip" = none) (ha : PA X [e, e2] ta) (hK : X.K = K := by rfl) (hg : Gl X "zip" := by rfl)
    (hs : starEach [e, e2] X.env = (false, eval e X.env) :: starEach [e2] X.env := by rfl) (hpl : (backTo pos (starEach [e2] X.env)).any (·.1) = false := by rfl) :
    PI X (.Tuple elts kk tpos) (.Call (.Name "zip" p) [e, e2] [] pos) (iZipD K ta) := by
  subst hK
  refine ⟨fun pins s σ H R I h => (pi_zipA hg hm (pa_up ha) hs hpl).run pins s σ H R I ⟨_, h, fun vs H1 q => q.r⟩⟩
theorem zip_walk {v u : V} {d e : PyData} {ds es : List PyData} {R : It → Hp → Prop} (hd : Dp K F v d) (he : Dp K F u e) (ht : twin d e ds es) (s : Sees F H)
    (k : ∀ J xs ys G, Walk J (min ds.length es.length) G (YPair (fun i => xs[i]?) (fun i => ys[i]?)) → (∀ H', Sees F H' → G H') → DpAll K F xs ds → DpAll K F ys es → R J H) :
    rZip K [v, u] H R := by
  rcases ht with ⟨rfl, rfl⟩ | ⟨rfl, rfl⟩
  · obtain ⟨a, xs, rfl, h1, q1⟩ := dp_list hd
    obtain ⟨b, ys, rfl, h2, q2⟩ := dp_list he
    exact .mk ⟨a, b, xs, ys, rfl, .inl ⟨sees_l s h1, sees_l s h2, k _ xs ys _ (walk_zip (by rw [q1.length, q2.length])) (fun H' z => ⟨sees_l z h1, sees_l z h2⟩) q1 q2⟩⟩
  · obtain ⟨a, xs, rfl, h1, q1⟩ := dp_tup hd
    obtain ⟨b, ys, rfl, h2, q2⟩ := dp_tup he
    exact .mk ⟨a, b, xs, ys, rfl, .inr ⟨sees_t s h1, sees_t s h2, k _ xs ys _ (walk_zipT (by rw [q1.length, q2.length])) (fun H' z => ⟨sees_t z h1, sees_t z h2⟩) q1 q2⟩⟩
/-- x[lo:hi] -/
theorem DpAll.drop : ∀ {vs : List V} {ds : List PyData} (n : Nat), DpAll K F vs ds → DpAll K F (vs.drop n) (ds.drop n)
  | _, _, 0, h => h
  | _, _, _ + 1, .nil => .nil
  | _, _, n + 1, .cons _ t => DpAll.drop n t
theorem DpAll.take : ∀ {vs : List V} {ds : List PyData} (n : Nat), DpAll K F vs ds → DpAll K F (vs.take n) (ds.take n)
  | _, _, 0, _ => .nil
  | _, _, _ + 1, .nil => .nil
  | _, _, n + 1, .cons h t => .cons h (DpAll.take n t)
def cutD (ds : List PyData) (lo hi : Option Int) : List PyData := (ds.drop (HT.sIx ds.length 0 lo)).take (HT.sIx ds.length ds.length hi - HT.sIx ds.length 0 lo)
theorem cutD_from (ds : List PyData) (k : Nat) : cutD ds (some (k : Int)) none = ds.drop k := by
  unfold cutD
  rw [HT.sIx_nat, HT.sIx_none]
  by_cases h : k ≤ ds.length
  · rw [Nat.min_eq_left h, List.take_of_length_le (by rw [List.length_drop]; exact Nat.le_refl _)]
  · have h' : ds.length ≤ k := by omega
    rw [Nat.min_eq_right h', List.drop_length, List.drop_of_length_le h']
    simp
theorem cutD_to (ds : List PyData) (k : Nat) : cutD ds none (some (k : Int)) = ds.take k := by
  unfold cutD
  rw [HT.sIx_nat, HT.sIx_none]
  by_cases h : k ≤ ds.length
  · rw [Nat.min_eq_left h]; simp
  · have h' : ds.length ≤ k := by omega
    rw [Nat.min_eq_right h', List.take_of_length_le h']
    simp
theorem DpAll.cut {vs : List V} {ds : List PyData} (h : DpAll K F vs ds) (lo hi : Option Int) : DpAll K F (cutV vs lo hi) (cutD ds lo hi) := by
  unfold cutV cutD
  rw [h.length]
  exact DpAll.take _ (DpAll.drop _ h)
theorem slL_dp {v : V} {ds : List PyData} {lo hi : Option Int} {Q : VK} (hd : Dp K F v (.list ds)) (s : Sees F H) (k : ∀ p ys F' H', Gr [] F H F' H' → H p = none → F' p = none → H' p = some (.lst ys) → DpAll K F' ys (cutD ds lo hi) → Q (.ref p) H') : rSlL K v lo hi H Q := by
  obtain ⟨a, xs, rfl, h, q⟩ := dp_list hd
  exact ⟨a, xs, rfl, sees_l s h, fun p hp => k p _ F _ ((Gr.refl s).newM hp) hp (s.dm hp) upd_same (DpAll.cut q lo hi)⟩
theorem slT_dp {v : V} {ds : List PyData} {lo hi : Option Int} {Q : VK} (hd : Dp K F v (.tuple ds)) (s : Sees F H) (k : ∀ r F' H', Gr [] F H F' H' → Dp K F' r (.tuple (cutD ds lo hi)) → Q r H') : rSlA K v lo hi H Q := by
  obtain ⟨a, xs, rfl, h, q⟩ := dp_tup hd
  refine ⟨a, xs, rfl, sees_t s h, fun hw => k _ F H (Gr.refl s) ?_, fun _ p hp => k _ _ _ ((Gr.refl s).new hp) (.tup (.inl (.inl upd_same)) ((DpAll.cut q lo hi).ex (Ex.new (s.dm hp))))⟩
  have e : cutD ds lo hi = ds := by
    unfold cutD
    rw [← q.length, hw.1, hw.2, List.drop_zero, Nat.sub_zero, List.take_of_length_le (by rw [q.length]; exact Nat.le_refl _)]
  rw [e]
  exact .tup h q
/-- either -/
theorem slQ_dp {v : V} {d : PyData} {ds : List PyData} {lo hi : Option Int} {Q : VK} (hd : Dp K F v d) (hq : isSeq d ds) (s : Sees F H) (k : ∀ r e F' H', Gr [] F H F' H' → twin d e ds (cutD ds lo hi) → Dp K F' r e → Q r H') : rSlD K v lo hi H Q := by
  rcases hq with rfl | rfl
  · refine .mk (.inl (slL_dp hd s fun p ys F' H' g hp hf hh hy => k _ (.list (cutD ds lo hi)) _ H' (g.done hp hf hh) (.inl ⟨rfl, rfl⟩) (.lst (.inl (.inl upd_same)) (hy.ex (Ex.new hf)))))
  · exact .mk (.inr (slT_dp hd s fun r F' H' g hr => k r _ F' H' g (.inr ⟨rfl, rfl⟩) hr))
/-- len of data -/
theorem len_dp {v : V} {d : PyData} {ds : List PyData} {Q : VK} (hd : Dp K F v d) (hq : isSeq d ds) (s : Sees F H) (q : Q (.int ds.length) H) : rLenD K [v] H Q := by
  obtain ⟨a, xs, rfl, h, hx⟩ := dp_seq hd hq
  exact .mk ⟨a, xs, rfl, h.imp (sees_l s) (sees_t s), by rw [hx.length]; exact q⟩
/-- an item of data -/
theorem ix_dp {v : V} {d e : PyData} {ds : List PyData} {i : Int} {Q : VK} (hd : Dp K F v d) (hq : isSeq d ds) (s : Sees F H) (hi : atI ds i = some e) (q : ∀ r, Dp K F r e → Q r H) : rIxD K v (.int i) H Q := by
  obtain ⟨a, xs, rfl, h, hx⟩ := dp_seq hd hq
  have go : ∃ r, atI xs i = some r ∧ Dp K F r e := by
    unfold atI at hi ⊢
    rw [hx.length]
    cases hj : ixN ds.length i with
    | none => rw [hj] at hi; cases hi
    | some j =>
      rw [hj] at hi
      obtain ⟨r, h1, h2⟩ := hx.getD hi
      exact ⟨r, h1, h2⟩
  obtain ⟨r, h1, h2⟩ := go
  rcases h with h | h
  · exact .mk (.inl ⟨a, xs, i, r, rfl, rfl, sees_l s h, h1, q r h2⟩)
  · exact .mk (.inr ⟨a, xs, i, r, rfl, rfl, sees_t s h, h1, q r h2⟩)
/-- tuple(x), list(x) of data -/
theorem tuple_dp {v : V} {d : PyData} {ds : List PyData} {Q : VK} (hd : Dp K F v d) (hq : isSeq d ds) (s : Sees F H) (k : ∀ r F' H', Gr [] F H F' H' → Dp K F' r (.tuple ds) → Q r H') : rTupD K [v] H Q := by
  rcases hq with rfl | rfl
  · obtain ⟨a, xs, rfl, h, hx⟩ := dp_list hd
    exact .mk ⟨a, xs, rfl, .inl ⟨sees_l s h, fun l hl => k _ _ _ ((Gr.refl s).new hl) (.tup (.inl (.inl upd_same)) (hx.ex (Ex.new (s.dm hl))))⟩⟩
  · obtain ⟨a, xs, rfl, h, hx⟩ := dp_tup hd
    exact .mk ⟨a, xs, rfl, .inr ⟨sees_t s h, k _ F H (Gr.refl s) (.tup h hx)⟩⟩
theorem list_dp {v : V} {d : PyData} {ds : List PyData} {Q : VK} (hd : Dp K F v d) (hq : isSeq d ds) (s : Sees F H) (k : ∀ p ys F' H', Gr [] F H F' H' → H p = none → F' p = none → H' p = some (.lst ys) → DpAll K F' ys ds → Q (.ref p) H') : rLisD K [v] H Q := by
  obtain ⟨a, xs, rfl, h, hx⟩ := dp_seq hd hq
  exact .mk ⟨a, xs, rfl, h.imp (sees_l s) (sees_t s), fun l hl => k l xs F _ ((Gr.refl s).newM hl) hl (s.dm hl) upd_same hx⟩
/-- all(l), any(l), l a new list of truth values -/
theorem all_new {p : Addr} {bs : List Bool} {Q : VK} (h : H p = some (.lst (bs.map V.bl))) (q : Q (.bl (bs.all id)) H) : rAllD K [.ref p] H Q := .mk ⟨p, bs, rfl, .inl (.inl h), q⟩
theorem any_new {p : Addr} {bs : List Bool} {Q : VK} (h : H p = some (.lst (bs.map V.bl))) (q : Q (.bl (bs.any id)) H) : rAnyD K [.ref p] H Q := .mk ⟨p, bs, rfl, .inl (.inl h), q⟩
end
/-! ### comprehensions over data -/
section
variable {K : PySem.W.Frag} {J : It} {G : Hp → Prop} {g : TG} {tt : TT} {te : TE} {vs : List Nat} {σ : L2.St} {F H1 : Hp} {D : Addr} {Qd : Hp → Prop} {β : Type} {bs : List β} {enc : β → PyData} {xs : List V}
theorem yAt_dp (hx : DpAll K F xs (bs.map enc)) {i : Nat} {b : β} {x : V} {F' H' H'' : Hp} (hb : bs[i]? = some b) (g1 : Gr [] F H1 F' H') (y : YAt xs i H' x H'') : ∃ F'', Gr [] F' H' F'' H'' ∧ Dp K F'' x (enc b) := by
  obtain ⟨rfl, hxi⟩ := y
  obtain ⟨d, h1, h2⟩ := hx.get hxi
  rw [List.getElem?_map, hb] at h1
  cases h1
  exact ⟨F', Gr.refl g1.fh, h2.ex g1.ff⟩
theorem lc_seqP {p : β → Bool} {f : β → PyData} (w : Walk J xs.length G (YAt xs)) (hx : DpAll K F xs (bs.map enc)) (sees : Sees F H1) (hG : ∀ H', Sees F H' → G H') (hz : bs.length ≤ 100000)
    (hs : ∀ b x F' H', b ∈ bs → Gr [] F H1 F' H' → Dp K F' x (enc b) → TurnP [] g tt te vs σ x F' H' (p b) (fun y F3 _ => Dp K F3 y (f b)))
    (hD : H1 D = none) (q : ∀ acc F' H', Gr [] F H1 F' H' → F' D = none → H' D = some (.lst acc) → DpAll K F' acc ((bs.filter p).map f) → Qd H') : LcW J g tt te vs σ H1 D Qd :=
  lc_pure (K := K) (Im := fun b x F => Dp K F x (enc b)) (by rw [hx.length, List.length_map] at w; exact w) sees hG hz (fun i b x F' H' H'' hb g1 y => yAt_dp hx hb g1 y) hs hD q
theorem lc_seqM {f : β → PyData} (w : Walk J xs.length G (YAt xs)) (hx : DpAll K F xs (bs.map enc)) (sees : Sees F H1) (hG : ∀ H', Sees F H' → G H') (hz : bs.length ≤ 100000)
    (hs : ∀ b x F' H', b ∈ bs → Gr [] F H1 F' H' → Dp K F' x (enc b) → TurnP [] g tt te vs σ x F' H' true (fun y F3 _ => Dp K F3 y (f b)))
    (hD : H1 D = none) (q : ∀ acc F' H', Gr [] F H1 F' H' → F' D = none → H' D = some (.lst acc) → DpAll K F' acc (bs.map f) → Qd H') : LcW J g tt te vs σ H1 D Qd :=
  lc_map (K := K) (Im := fun b x F => Dp K F x (enc b)) (by rw [hx.length, List.length_map] at w; exact w) sees hG hz (fun i b x F' H' H'' hb g1 y => yAt_dp hx hb g1 y) hs hD q
theorem lc_seqB {f : β → Bool} (w : Walk J xs.length G (YAt xs)) (hx : DpAll K F xs (bs.map enc)) (sees : Sees F H1) (hG : ∀ H', Sees F H' → G H') (hz : bs.length ≤ 100000)
    (hs : ∀ b x F' H', b ∈ bs → Gr [] F H1 F' H' → Dp K F' x (enc b) → TurnP [] g tt te vs σ x F' H' true (fun y F3 _ => y = .bl (f b)))
    (hD : H1 D = none) (q : ∀ F' H', Gr [] F H1 F' H' → F' D = none → H' D = some (.lst ((bs.map f).map V.bl)) → Qd H') : LcW J g tt te vs σ H1 D Qd :=
  lc_bools K (Im := fun b x F => Dp K F x (enc b)) (by rw [hx.length, List.length_map] at w; exact w) sees hG hz (fun i b x F' H' H'' hb g1 y => yAt_dp hx hb g1 y) hs hD q
/-- a turn over pairs -/
theorem turn2 {B : List Addr} {i j : Nat} {T : Addr} {x y : V} {F H : Hp} {R : V → Hp → Hp → Prop} {R0 : Hp → Hp → Prop} (hT : SqT K H T [x, y]) (hw : wipe (((wipe σ vs).set i (some x)).set j (some y)) vs = wipe σ vs)
    (h : ∀ Yes : V → Hp → Prop, (∀ y F3 H3, Gr B F H F3 H3 → R y F3 H3 → Yes y H3) → te (((wipe σ vs).set i (some x)).set j (some y)) H Yes) : TurnP B (gTup K 2 (gCons (gName i) (gCons (gName j) gNil))) tYes te vs σ (.ref T) F H true R R0 :=
  fun Yes No _ h1 => ⟨T, [x, y], rfl, hT, rfl, _, _, rfl, _, _, rfl, rfl, hw, yesI (h Yes (h1 rfl))⟩
end
/-! pairs of neighbours -/
section
variable {K : PySem.W.Frag} {J : It} {G : Hp → Prop} {g : TG} {tt : TT} {te : TE} {vs : List Nat} {σ : L2.St} {F H1 : Hp} {D : Addr} {Qd : Hp → Prop} {β γ : Type} {bs : List β} {cs : List γ} {enc : β → PyData} {end' : γ → PyData} {xs ys : List V}
theorem yPair_dp (hx : DpAll K F xs (bs.map enc)) (hy : DpAll K F ys (cs.map end')) {i : Nat} {b : β × γ} {v : V} {F' H' H'' : Hp} (hb : (bs.zip cs)[i]? = some b) (g1 : Gr [] F H1 F' H') (y : YPair (fun i => xs[i]?) (fun i => ys[i]?) i H' v H'') :
    ∃ F'', Gr [] F' H' F'' H'' ∧ ∃ T x y, v = .ref T ∧ F'' T = some (.tup [x, y]) ∧ Dp K F'' x (enc b.1) ∧ Dp K F'' y (end' b.2) := by
  obtain ⟨T, x1, y1, rfl, hT, rfl, h1, h2⟩ := y
  obtain ⟨i1, i2⟩ := List.getElem?_zip_eq_some.mp hb
  obtain ⟨d, k1, k2⟩ := hx.get h1
  obtain ⟨e, k3, k4⟩ := hy.get h2
  rw [List.getElem?_map, i1] at k1
  rw [List.getElem?_map, i2] at k3
  cases k1
  cases k3
  exact ⟨_, (Gr.refl g1.fh).new hT, T, x1, y1, rfl, upd_same, (k2.ex g1.ff).ex (Ex.new (g1.fh.dm hT)), (k4.ex g1.ff).ex (Ex.new (g1.fh.dm hT))⟩
end
/-! loops of a display of two clauses -/
section
variable {J : It} {n : Nat} {G : Hp → Prop} {Y : Nat → Hp → V → Hp → Prop}
theorem loop_it (w : Walk J n G Y) {H0 : Hp} {stop : Hp → Prop} {turn : V → Hp → (Hp → Prop) → Prop} (P : Nat → Hp → Prop) (h0 : P 0 H0) (hG : ∀ i H, i ≤ n → P i H → G H) (hs : ∀ i x H H', i < n → P i H → Y i H x H' → turn x H' (P (i + 1))) (hd : ∀ H, P n H → stop H) :
    ∃ W : Nat → Nat → Hp → Prop, (∃ m, W 0 m H0) ∧ ∀ i m H, W i m H → (J.stop i H ∧ stop H) ∨ (J.go i H ∧ ∃ Nx : Hp → Prop, (∀ H', Nx H' → ∃ m', m' < m ∧ W (i + 1) m' H') ∧ ∀ x H', J.yld i H x H' → turn x H' Nx) := by
  refine ⟨fun i m H => m = n - i ∧ i ≤ n ∧ P i H, ⟨n, by simp, Nat.zero_le _, h0⟩, ?_⟩
  rintro i m H ⟨rfl, hi, p⟩
  have q := hG i H hi p
  by_cases lt : i < n
  · exact .inr ⟨w.goes i H lt q, P (i + 1), fun H' p' => ⟨n - (i + 1), by omega, rfl, lt, p'⟩, fun x H' y => hs i x H H' lt p (w.yields i H x H' lt q y)⟩
  · have e : i = n := by omega
    subst e
    exact .inl ⟨w.stops H q, hd H p⟩
end
/-- a finished dict, its class -/
theorem isi_dK {K : PySem.W.Frag} {H : Hp} {a : Addr} {kvs : List (Key × V)} {T : String} {b : Bool} {Q : VK} (h : H a = some (.dK kvs)) (hb : kitB "dict" T = some b) (q : Q (.bl b) H) : rIsiD K [.ref a, .ty T] H Q :=
  .mk ⟨.ref a, .ty T, .type "dict", .type T, b, rfl, .ty T, .base (.dK h), kit_ty hb, q⟩
end TW
set_option Elab.async false
set_option linter.all false
set_option maxRecDepth 100000
set_option maxHeartbeats 4000000
/-! tuple(d): the keys of a dict -/
namespace TW
open PySem PySem.Spec PyProof.Rows L2 RZ StX
section
variable {X : Cx}
/-- tuple(d) -/
structure rTupKD (xs : List V) (H : Hp) (Q : VK) : Prop where
  r : ∃ (a : Addr) (kvs : List (Key × V)), xs = [.ref a] ∧ Rd H a (.dK kvs) ∧ ∀ p, H p = none → Q (.ref p) (upd H p (.tup (kvs.map fun kv => kV kv.1)))
theorem cr_tupKD (hcalm : X.calm = true := by rfl) : CallR X (.type "tuple") rTupKD := by
  intro pins s σ H xs us Q I r h
  obtain ⟨a, kvs, rfl, hd, q⟩ := h.r
  rw [Vals.ref1 r]
  obtain ⟨z, lo, vs, rel, dd⟩ := dk_rd I.hok hd
  obtain ⟨ep, hat⟩ := dd.dictAt
  have ek : (kvs.map fun kv => kV kv.1) = vs.map fun p => kV p.1 := by
    have e := congrArg (List.map kV) rel.keys
    rw [List.map_map, List.map_map] at e
    exact e
  have hz : vs.length ≤ sizeLine := by rw [← rel.length]; exact z
  have hTd : s.TypeIs (.ref a) "dict" := dd.typeIs
  refine callType_codes (Q₁ := fun obj s₁ => s₁.TypeIs obj "tuple" ∧ EP X pins σ Q obj s₁) F.called_tuple (F.typeCall_tuple_1 _) F.entry_object_init ?_
    fun obj s₁ h₁ => ⟨h₁.1, F.args_object_init_2 obj _, object_init_meets F.called_tuple.init.lookup F.called_tuple.made (by decide) X.prog X.w X.A.in1 _ s₁ ⟨h₁.1, rfl, h₁.2⟩⟩
  refine codeAny_of_tree ?_
  show wpAny _ X.A.in1.in1 (do checkBuiltinCall "tuple.__new__" ⟨[.type "tuple", .ref a], []⟩; again (.builtin "tuple.__new__" ⟨[.type "tuple", .ref a], []⟩)) _ _ s
  refine wpAny_bind (wpAny_of_eq (F.newCall_tuple_1 _) (wpAny_pure ⟨plainId_quiet F.plain_tuple_new _, codeAny_builtin F.entry_tuple_new ?_⟩))
  rw [Around.under_plainId F.plain_tuple_new _]
  have y1 := sub_tuple_self
  have y2 := init_tuple_lookup
  have y3 := madeHere_tuple
  have hh : X.A.in1.in1.handled = none := I.ok.hd hcalm
  have col : ∀ (E : Value → Shared → Prop) (R : List Value → Shared → Prop), (∀ h' tk acc, (∀ b o, s.heap.get? b = some o → h'.get? b = some o) → Vals (kvs.map fun kv => kV kv.1) acc → acc.length ≤ sizeLine → R acc { s with heap := h', toks := tk }) → wpAny (model X.prog X.w) X.A.in1.in1 (collect (.ref a)) R E s := fun E R hR =>
    PySem.W.kdu_collect (A := X.A.in1.in1) (PySem.W.kdl_dict (knd := mixKind X.prog X.w) (kvs := vs) (ep := ep) lo) hh hat hz fun h' tk acc hk hacc => hR h' tk acc.toList hk (by
      rw [ek]
      exact keys_at (by rw [Array.length_toList]; exact hacc.1) fun j v e => hacc.2 j v (by rw [← Array.getElem?_toList]; exact e)) (by rw [Array.length_toList, hacc.1]; exact hz)
  wp_walk using wpAny_typeOf hTd, col _ _
  intro h' tk acc hk hv hl
  show wpAny _ _ (Builtin.Tuple.tupleExact acc.toArray >>= fun v => ret v) _ _ _
  unfold Builtin.Tuple.tupleExact
  refine wpAny_bind (wpAny_newObj_type ?_ (by show acc.toArray.size ≤ sizeLine; rw [List.size_toArray]; exact hl))
  refine wpAny_pure ⟨⟨_, Heap.get?_push_size _ rfl, rfl⟩, ?_⟩
  have I1 : Inv X pins σ H { s with heap := h', toks := tk } := I.kept hk
  have I2 : Inv X pins σ (upd H h'.objs.size (.tup (kvs.map fun kv => kV kv.1))) { s with heap := h'.push { cls := .type "tuple", data := .seq acc.toArray }, toks := tk } :=
    I1.laid (t' := tk) (fun b o e => Heap.get?_push_of_some _ e) (Nat.le_refl _) (show ObjOk X.prog X.w _ _ _ (.tup _) from ⟨by rw [hv.length]; exact hl, acc, hv, IsTup.new _ _⟩)
  exact ⟨.ref h'.objs.size, _, I2, rfl, q _ (I1.hok.fresh (Nat.le_refl _))⟩
end
end TW
set_option Elab.async false
set_option linter.all false
set_option maxRecDepth 100000
/-! the text by places -/
namespace TW
open PySem L2
def topS (i : Nat) : Stmt := PySem.Challenge.pw_throughwalls_k84_whole_blends_of_marks.main.body.getD i (.Pass ⟨0, 0, 0, 0⟩)
abbrev s_is_listed : Stmt := topS 5
abbrev sc_is_listedN : List Str := ["value"]
theorem sc_is_listed : FnScope sc_is_listedN ["value"] (defScope s_is_listed) := ⟨rfl, rfl, rfl, by decide +kernel, rfl, by decide +kernel, by decide +kernel⟩
abbrev s_is_sound : Stmt := topS 6
abbrev sc_is_soundN : List Str := ["value"]
theorem sc_is_sound : FnScope sc_is_soundN ["value"] (defScope s_is_sound) := ⟨rfl, rfl, rfl, by decide +kernel, rfl, by decide +kernel, by decide +kernel⟩
abbrev s_is_mark : Stmt := topS 7
abbrev sc_is_markN : List Str := ["value", "sign"]
theorem sc_is_mark : FnScope sc_is_markN ["value"] (defScope s_is_mark) := ⟨rfl, rfl, rfl, by decide +kernel, rfl, by decide +kernel, by decide +kernel⟩
abbrev s_is_heard : Stmt := topS 8
abbrev sc_is_heardN : List Str := ["value"]
theorem sc_is_heard : FnScope sc_is_heardN ["value"] (defScope s_is_heard) := ⟨rfl, rfl, rfl, by decide +kernel, rfl, by decide +kernel, by decide +kernel⟩
abbrev s_are_marks : Stmt := topS 16
abbrev sc_are_marksN : List Str := ["value", "mark"]
theorem sc_are_marks : FnScope sc_are_marksN ["value"] (defScope s_are_marks) := ⟨rfl, rfl, rfl, by decide +kernel, rfl, by decide +kernel, by decide +kernel⟩
abbrev s_Wall___init__ : Stmt := inClass (topS 17) 0
abbrev sc_Wall___init__N : List Str := ["self", "marks", "sound", "every", "mark"]
theorem sc_Wall___init__ : FnScope sc_Wall___init__N ["self", "marks"] (defScope s_Wall___init__) := ⟨rfl, rfl, rfl, by decide +kernel, rfl, by decide +kernel, by decide +kernel⟩
abbrev s_Wall_marks : Stmt := inClass (topS 17) 1
abbrev sc_Wall_marksN : List Str := ["self", "sound"]
theorem sc_Wall_marks : FnScope sc_Wall_marksN ["self"] (defScope s_Wall_marks) := ⟨rfl, rfl, rfl, by decide +kernel, rfl, by decide +kernel, by decide +kernel⟩
abbrev s_Wall___eq__ : Stmt := inClass (topS 17) 3
abbrev sc_Wall___eq__N : List Str := ["self", "other"]
theorem sc_Wall___eq__ : FnScope sc_Wall___eq__N ["self", "other"] (defScope s_Wall___eq__) := ⟨rfl, rfl, rfl, by decide +kernel, rfl, by decide +kernel, by decide +kernel⟩
abbrev s_parted : Stmt := topS 20
abbrev sc_partedN : List Str := ["marks", "found", "mark", "later", "groups", "at", "group"]
theorem sc_parted : FnScope sc_partedN ["marks"] (defScope s_parted) := ⟨rfl, rfl, rfl, by decide +kernel, rfl, by decide +kernel, by decide +kernel⟩
abbrev s_all_blends : Stmt := topS 21
abbrev sc_all_blendsN : List Str := ["wall", "group", "groups"]
theorem sc_all_blends : FnScope sc_all_blendsN ["wall"] (defScope s_all_blends) := ⟨rfl, rfl, rfl, by decide +kernel, rfl, by decide +kernel, by decide +kernel⟩
abbrev s_blend_of : Stmt := topS 22
abbrev sc_blend_ofN : List Str := ["wall", "groups", "names", "group", "mark", "found", "sound"]
theorem sc_blend_of : FnScope sc_blend_ofN ["wall", "groups"] (defScope s_blend_of) := ⟨rfl, rfl, rfl, by decide +kernel, rfl, by decide +kernel, by decide +kernel⟩
abbrev s_is_inside_one : Stmt := topS 23
abbrev sc_is_inside_oneN : List Str := ["group", "groups", "held", "other", "mark"]
theorem sc_is_inside_one : FnScope sc_is_inside_oneN ["group", "groups"] (defScope s_is_inside_one) := ⟨rfl, rfl, rfl, by decide +kernel, rfl, by decide +kernel, by decide +kernel⟩
abbrev s_is_as_thick : Stmt := topS 24
abbrev sc_is_as_thickN : List Str := ["one", "other", "held", "group", "mark"]
theorem sc_is_as_thick : FnScope sc_is_as_thickN ["one", "other"] (defScope s_is_as_thick) := ⟨rfl, rfl, rfl, by decide +kernel, rfl, by decide +kernel, by decide +kernel⟩
abbrev s_is_group : Stmt := topS 25
abbrev sc_is_groupN : List Str := ["value", "marks", "one", "other"]
theorem sc_is_group : FnScope sc_is_groupN ["value", "marks"] (defScope s_is_group) := ⟨rfl, rfl, rfl, by decide +kernel, rfl, by decide +kernel, by decide +kernel⟩
abbrev s_need_groups : Stmt := topS 26
abbrev sc_need_groupsN : List Str := ["wall", "value", "group", "every", "mark"]
theorem sc_need_groups : FnScope sc_need_groupsN ["wall", "value"] (defScope s_need_groups) := ⟨rfl, rfl, rfl, by decide +kernel, rfl, by decide +kernel, by decide +kernel⟩
abbrev s_need_alone : Stmt := topS 27
abbrev sc_need_aloneN : List Str := ["value"]
theorem sc_need_alone : FnScope sc_need_aloneN ["value"] (defScope s_need_alone) := ⟨rfl, rfl, rfl, by decide +kernel, rfl, by decide +kernel, by decide +kernel⟩
abbrev s_blends : Stmt := topS 28
abbrev sc_blendsN : List Str := ["wall"]
theorem sc_blends : FnScope sc_blendsN ["wall"] (defScope s_blends) := ⟨rfl, rfl, rfl, by decide +kernel, rfl, by decide +kernel, by decide +kernel⟩
abbrev s_blended : Stmt := topS 29
abbrev sc_blendedN : List Str := ["wall", "groups"]
theorem sc_blended : FnScope sc_blendedN ["wall", "groups"] (defScope s_blended) := ⟨rfl, rfl, rfl, by decide +kernel, rfl, by decide +kernel, by decide +kernel⟩
abbrev s_is_thicker : Stmt := topS 30
abbrev sc_is_thickerN : List Str := ["wall", "one", "other"]
theorem sc_is_thicker : FnScope sc_is_thickerN ["wall", "one", "other"] (defScope s_is_thicker) := ⟨rfl, rfl, rfl, by decide +kernel, rfl, by decide +kernel, by decide +kernel⟩
abbrev s__law_pen : Stmt := topS 32
abbrev sc__law_penN : List Str := ["script"]
theorem sc__law_pen : FnScope sc__law_penN ["script"] (defScope s__law_pen) := ⟨rfl, rfl, rfl, by decide +kernel, rfl, by decide +kernel, by decide +kernel⟩
abbrev s__law_draw : Stmt := topS 33
abbrev sc__law_drawN : List Str := ["pen", "many", "digit", "at", "cell", "great", "mixed"]
theorem sc__law_draw : FnScope sc__law_drawN ["pen", "many"] (defScope s__law_draw) := ⟨rfl, rfl, rfl, by decide +kernel, rfl, by decide +kernel, by decide +kernel⟩
abbrev s__law_pick : Stmt := topS 34
abbrev sc__law_pickN : List Str := ["pen", "some"]
theorem sc__law_pick : FnScope sc__law_pickN ["pen", "some"] (defScope s__law_pick) := ⟨rfl, rfl, rfl, by decide +kernel, rfl, by decide +kernel, by decide +kernel⟩
abbrev s__law_blends : Stmt := topS 35
abbrev sc__law_blendsN : List Str := ["marks", "found", "mark", "longer", "groups", "at", "group"]
theorem sc__law_blends : FnScope sc__law_blendsN ["marks"] (defScope s__law_blends) := ⟨rfl, rfl, rfl, by decide +kernel, rfl, by decide +kernel, by decide +kernel⟩
abbrev s__law_names : Stmt := topS 36
abbrev sc__law_namesN : List Str := ["groups", "found", "group", "mark"]
theorem sc__law_names : FnScope sc__law_namesN ["groups"] (defScope s__law_names) := ⟨rfl, rfl, rfl, by decide +kernel, rfl, by decide +kernel, by decide +kernel⟩
abbrev s__law_thicker : Stmt := topS 37
abbrev sc__law_thickerN : List Str := ["every", "one", "other", "mine", "its", "mark", "pairs", "name"]
theorem sc__law_thicker : FnScope sc__law_thickerN ["every", "one", "other"] (defScope s__law_thicker) := ⟨rfl, rfl, rfl, by decide +kernel, rfl, by decide +kernel, by decide +kernel⟩
abbrev s__law_blended : Stmt := topS 38
abbrev sc__law_blendedN : List Str := ["marks", "groups", "names", "mark", "sound"]
theorem sc__law_blended : FnScope sc__law_blendedN ["marks", "groups"] (defScope s__law_blended) := ⟨rfl, rfl, rfl, by decide +kernel, rfl, by decide +kernel, by decide +kernel⟩
abbrev s__law_marks : Stmt := topS 41
abbrev sc__law_marksN : List Str := ["pen", "many", "some", "found", "at", "turn", "sound", "mark"]
theorem sc__law_marks : FnScope sc__law_marksN ["pen", "many"] (defScope s__law_marks) := ⟨rfl, rfl, rfl, by decide +kernel, rfl, by decide +kernel, by decide +kernel⟩
abbrev s__law_counted_right : Stmt := topS 42
abbrev sc__law_counted_rightN : List Str := ["many"]
theorem sc__law_counted_right : FnScope sc__law_counted_rightN [] (defScope s__law_counted_right) := ⟨rfl, rfl, rfl, by decide +kernel, rfl, by decide +kernel, by decide +kernel⟩
abbrev s__law_one_right : Stmt := topS 43
abbrev sc__law_one_rightN : List Str := ["pen", "many", "marks", "wall", "every", "told", "mark", "turn", "one", "other", "third", "groups", "group", "sound"]
theorem sc__law_one_right : FnScope sc__law_one_rightN ["pen", "many"] (defScope s__law_one_right) := ⟨rfl, rfl, rfl, by decide +kernel, rfl, by decide +kernel, by decide +kernel⟩
abbrev s_law : Stmt := topS 44
abbrev sc_lawN : List Str := ["script", "pen", "many"]
theorem sc_law : FnScope sc_lawN ["script"] (defScope s_law) := ⟨rfl, rfl, rfl, by decide +kernel, rfl, by decide +kernel, by decide +kernel⟩
end TW
set_option Elab.async false
set_option linter.all false
set_option maxRecDepth 100000
set_option maxHeartbeats 4000000
/-! the checks -/
namespace TW
open PySem PySem.Spec PyProof.Rows L2 RZ StX
open Evl (Ex)
/-- the module's names that the bodies read -/
structure Txt (mg : Str → Option Value) : Prop where
  isinstance : mg "isinstance" = none
  len : mg "len" = none
  all : mg "all" = none
  any : mg "any" = none
  sorted : mg "sorted" = none
  zip : mg "zip" = none
  enumerate : mg "enumerate" = none
  range : mg "range" = none
  abs : mg "abs" = none
  set : mg "set" = none
  tuple : mg "tuple" = none
  list : mg "list" = none
  dict : mg "dict" = none
  int : mg "int" = none
  bool : mg "bool" = none
  str : mg "str" = none
  repr : mg "repr" = none
  max : mg "max" = none
  c_SIGNS : ∃ u, mg "SIGNS" = some u ∧ L2.RelV (.str "abcdefghijklmnopqrstuvwxyz") u
  c_MARK_SIGNS : ∃ u, mg "MARK_SIGNS" = some u ∧ L2.RelV (.str "abcdefghijklmnopqrstuvwxyz+-") u
  c_MOST_SIGNS : ∃ u, mg "MOST_SIGNS" = some u ∧ L2.RelV (.int 8) u
  c_MOST_MARKS : ∃ u, mg "MOST_MARKS" = some u ∧ L2.RelV (.int 6) u
  c_MOST_BLENDED : ∃ u, mg "MOST_BLENDED" = some u ∧ L2.RelV (.int 5) u
theorem bt_max : bootBuiltins "max" = some (.builtin "max") := by decide +kernel
theorem zc {X : Cx} {x : Str} {v : V} {pos : Pos} (c : ∃ u, X.mg x = some u ∧ L2.RelV v u) (hg : Gl X x := by rfl) (hd : (x == ("__debug__" : Str)) = false := by decide) : PE X (.Name x pos) (tC v) := by
  obtain ⟨u, h1, h2⟩ := c
  exact pe_glob hg h1 h2 hd

/-! what they tell -/
def isInt : PyData → Bool
  | .int _ => true
  | _ => false
def isWithin (lo hi : Int) : PyData → Bool
  | .int i => decide (lo ≤ i) && decide (i ≤ hi)
  | _ => false
def isListed : PyData → Bool
  | .list _ => true
  | .tuple _ => true
  | _ => false
def occB (big small : Str) : Bool := !(Builtin.Str.occurrences big small 0 big.length 1).isEmpty
def isSound : PyData → Bool
  | .str x => decide ((x.length : Int) = 1) && occB "abcdefghijklmnopqrstuvwxyz" x
  | _ => false
def markS (x : Str) : Bool := (decide ((1 : Int) ≤ x.length) && decide ((x.length : Int) ≤ 8)) && x.cps.toList.all fun c => occB "abcdefghijklmnopqrstuvwxyz+-" ⟨#[c]⟩
def isMark : PyData → Bool
  | .str x => markS x
  | _ => false
def isHeard : PyData → Bool
  | .str x => decide (x = "") || markS x
  | _ => false
def asc : List Int → Bool
  | x :: y :: r => decide (x < y) && asc (y :: r)
  | _ => true
theorem asc_zip : ∀ l : List Int, asc l = ((l.zip (l.drop 1)).map fun b => decide (b.1 < b.2)).all id
  | [] => rfl
  | [_] => rfl
  | x :: y :: r => by
    have ih := asc_zip (y :: r)
    show (decide (x < y) && asc (y :: r)) = _
    rw [ih]
    rfl
/-- a check of the first n arguments: they are data, it tells b and changes nothing -/
def spChk (K : PySem.W.Frag) (b : List PyData → Option Bool) (n : Nat) : Sp := fun vs H Q _ => ∃ (F : Hp) (ds : List PyData) (r : Bool), Sees F H ∧ DpAll K F vs ds ∧ b ds = some r ∧ ds.length = n ∧ ∀ F' H', Gr [] F H F' H' → Q (.bl r) H'
def bInt : List PyData → Option Bool
  | [d] => some (isInt d)
  | _ => none
section
variable {P : Program} {w : World} {K : PySem.W.Frag} {mg : Str → Option Value} {base : Heap}
def strZ : PyData → Nat → Prop
  | .str x, n => x.length ≤ n
  | _, _ => True
def toI : PyData → Int
  | .int i => i
  | _ => 0
def isLot : PyData → Bool
  | .list ds => ds.all (isWithin 0 399) && asc (ds.map toI)
  | .tuple ds => ds.all (isWithin 0 399) && asc (ds.map toI)
  | _ => false
theorem within_ints : ∀ {ds : List PyData}, ds.all (isWithin 0 399) = true → ds = (ds.map toI).map .int
  | [], _ => rfl
  | d :: ds, h => by
    rw [List.all_cons, Bool.and_eq_true] at h
    have ih := within_ints h.2
    cases d with
    | int i => exact congrArg (PyData.int i :: ·) ih
    | _ => exact absurd h.1 (by simp [isWithin])
theorem inV_ints (i : Int) (o : List Int) : inV (.int i) (o.map V.int) = decide (i ∈ o) := by
  unfold inV
  rw [List.any_map]
  induction o with
  | nil => rfl
  | cons j o ih =>
    rw [List.any_cons, ih]
    show ((j == i) || _) = _
    by_cases h : j = i
    · subst h; simp
    · have h' : (j == i) = false := by simpa using h
      rw [h', Bool.false_or]
      simp [Ne.symm h]
theorem flat_ints (o : List Int) : (o.map V.int).all flatV = true := by
  rw [List.all_map]
  exact List.all_eq_true.mpr fun _ _ => rfl
def seqZ : PyData → Nat → Prop
  | .list ds, n => ds.length ≤ n
  | .tuple ds, n => ds.length ≤ n
  | _, _ => True
theorem listed_seq {d : PyData} {n : Nat} (h : isListed d = true) (hz : seqZ d n) : ∃ ds, isSeq d ds ∧ ds.length ≤ n ∧ isLot d = (ds.all (isWithin 0 399) && asc (ds.map toI)) := by
  cases d with
  | list ds => exact ⟨ds, .inl rfl, hz, rfl⟩
  | tuple ds => exact ⟨ds, .inr rfl, hz, rfl⟩
  | _ => exact absurd h (by simp [isListed])
theorem lot_no {d : PyData} (h : ¬ isListed d = true) : isLot d = false := by
  cases d with
  | list ds => exact absurd rfl h
  | tuple ds => exact absurd rfl h
  | _ => rfl
def spMark (K : PySem.W.Frag) : Sp := fun vs H Q _ => ∃ (F : Hp) (v : V) (d : PyData), vs = [v] ∧ Sees F H ∧ Dp K F v d ∧ strZ d 1000 ∧ ∀ F' H', Gr [] F H F' H' → Q (.bl (isMark d)) H'
def spHeard (K : PySem.W.Frag) : Sp := fun vs H Q _ => ∃ (F : Hp) (v : V) (d : PyData), vs = [v] ∧ Sees F H ∧ Dp K F v d ∧ strZ d 1000 ∧ ∀ F' H', Gr [] F H F' H' → Q (.bl (isHeard d)) H'
def spLot (K : PySem.W.Frag) : Sp := fun vs H Q _ => ∃ (F : Hp) (v : V) (d : PyData), vs = [v] ∧ Sees F H ∧ Dp K F v d ∧ seqZ d 5000 ∧ ∀ F' H', Gr [] F H F' H' → Q (.bl (isLot d)) H'
def spInside (K : PySem.W.Frag) : Sp := fun vs H Q _ => ∃ (F : Hp) (v u : V) (d e : PyData) (l o : List Int), vs = [v, u] ∧ Sees F H ∧ Dp K F v d ∧ Dp K F u e ∧ isSeq d (l.map .int) ∧ isSeq e (o.map .int) ∧ l.length ≤ 5000 ∧ o.length ≤ 5000 ∧
  ∀ F' H', Gr [] F H F' H' → Q (.bl ((l.map fun i => decide (i ∈ o)).all id)) H'
def spArrow (K : PySem.W.Frag) : Sp := fun vs H Q _ => ∃ (F : Hp) (v : V) (d : PyData) (p : Int) (x : Str) (r : Int), vs = [v] ∧ Sees F H ∧ Dp K F v d ∧ isSeq d [.int p, .str x, .int r] ∧ x.length ≤ 1000 ∧
  ∀ F' H', Gr [] F H F' H' → Q (.bl (isSound (.str x) && (isWithin 0 399 (.int p) && isWithin 0 399 (.int r)))) H'
def spIsInt (K : PySem.W.Frag) : Sp := fun vs H Q _ => ∃ (F : Hp) (v : V) (d : PyData), vs = [v] ∧ Sees F H ∧ Dp K F v d ∧ ∀ F' H', Gr [] F H F' H' → Q (.bl (isInt d)) H'
def spWithin (K : PySem.W.Frag) : Sp := fun vs H Q _ => ∃ (F : Hp) (v : V) (d : PyData) (lo hi : Int), vs = [v, .int lo, .int hi] ∧ Sees F H ∧ Dp K F v d ∧ ∀ F' H', Gr [] F H F' H' → Q (.bl (isWithin lo hi d)) H'
def spListed (K : PySem.W.Frag) : Sp := fun vs H Q _ => ∃ (F : Hp) (v : V) (d : PyData), vs = [v] ∧ Sees F H ∧ Dp K F v d ∧ ∀ F' H', Gr [] F H F' H' → Q (.bl (isListed d)) H'
def spAsc (K : PySem.W.Frag) : Sp := fun vs H Q _ => ∃ (F : Hp) (v : V) (d : PyData) (l : List Int), vs = [v] ∧ Sees F H ∧ Dp K F v d ∧ isSeq d (l.map .int) ∧ l.length ≤ 5000 ∧ ∀ F' H', Gr [] F H F' H' → Q (.bl (asc l)) H'
def spSound (K : PySem.W.Frag) : Sp := fun vs H Q _ => ∃ (F : Hp) (v : V) (d : PyData), vs = [v] ∧ Sees F H ∧ Dp K F v d ∧ strZ d 1000 ∧ ∀ F' H', Gr [] F H F' H' → Q (.bl (isSound d)) H'
theorem ok_is_listed {f : Addr} {fd : FuncData} (F : Fun K "is_listed" "is_listed" s_is_listed f fd) (T : Txt mg)  : FnOk P w K mg base CX0 1 f fd ["value"] (spListed K) := by
  refine F.ok sc_is_listed (fun vs H Q E h => ?_) (fun cdv A outer s H vs Q E hr h => ?_)
  · obtain ⟨F0, v, d, rfl, fs, hd, q⟩ := h
    rfl
  · obtain ⟨F0, v, d, rfl, fs, hd, q⟩ := h
    have hu64 := hr.units
    refine ⟨_, (pss_one (ps_ret (pe_callB (cr_isiT' K) (by rfl) T.isinstance bt_isinstance (pa_cons (pv 0) (pa_cons (pe_tup (pa_cons (zty T.list bt_list) (pa_cons (zty T.tuple bt_tuple) pa_nil))) pa_nil))))), ?_⟩
    refine ⟨v, rfl, by show 2 ≤ sizeLine; decide, fun p hp => ?_⟩
    have g : Gr [] F0 H F0 (upd H p (.tup [.ty "list", .ty "tuple"])) := (Gr.refl fs).newM hp
    have q0 := q _ _ g
    have h1 := Dp.sees g.fh hd
    cases h1 with
    | int i => exact isiT_dp (.int i) upd_same rfl q0
    | bl b => exact isiT_dp (.bl b) upd_same rfl q0
    | non => exact isiT_dp .non upd_same rfl q0
    | str x => exact isiT_dp (.str x) upd_same rfl q0
    | lst a b => exact isiT_dp (.lst a b) upd_same rfl q0
    | tup a b => exact isiT_dp (.tup a b) upd_same rfl q0
theorem ok_is_sound {f : Addr} {fd : FuncData} (F : Fun K "is_sound" "is_sound" s_is_sound f fd) (T : Txt mg)  : FnOk P w K mg base CX0 1 f fd ["value"] (spSound K) := by
  refine F.ok sc_is_sound (fun vs H Q E h => ?_) (fun cdv A outer s H vs Q E hr h => ?_)
  · obtain ⟨F0, v, d, rfl, fs, hd, hx, q⟩ := h
    rfl
  · obtain ⟨F0, v, d, rfl, fs, hd, hx, q⟩ := h
    have hu64 := hr.units
    refine ⟨_, (pss_one (ps_ret (pe_and (pe_callB (cr_isi K) (by rfl) T.isinstance bt_isinstance (pa_cons (pv 0) (pa_cons (zty T.str bt_str) pa_nil))) (pe_and (pe_cmpR op_eq (pe_callB cr_lenS (by rfl) T.len bt_len (pa_cons (pv 0) pa_nil)) pe_int (nomark _)) (pe_one (pe_cmpR op_inS (pv 0) (zc T.c_SIGNS) rfl)))))), ?_⟩
    have h1 := Dp.sees fs hd
    have q0 := q F0 H (Gr.refl fs)
    cases h1 with
    | str x =>
      have lz : x.length ≤ sizeLine := Nat.le_trans hx (by rw [sizeLine_eq]; decide)
      refine ⟨_, rfl, isi_dp (.str x) (T := "str") rfl ⟨_, rfl, _, rfl, .mk ⟨x, rfl, lz, rfl, _, rfl, ?_⟩⟩⟩
      refine ite2 (fun e => ?_) (fun e => ?_)
      · have e2 : (x.length : Int) = 1 := V.int.inj (of_decide_eq_true e)
        rw [show isSound (.str x) = occB "abcdefghijklmnopqrstuvwxyz" x by simp [isSound, e2]] at q0
        exact ⟨_, rfl, .mk ⟨_, _, rfl, rfl, q0⟩⟩
      · have e2 : ¬ (x.length : Int) = 1 := fun z => e (decide_eq_true (congrArg V.int z))
        rw [show isSound (.str x) = false by simp [isSound, e2]] at q0
        exact q0
    | int i => exact ⟨_, rfl, isi_dp (.int i) (T := "str") rfl ⟨_, rfl, q0⟩⟩
    | bl b => exact ⟨_, rfl, isi_dp (.bl b) (T := "str") rfl ⟨_, rfl, q0⟩⟩
    | non => exact ⟨_, rfl, isi_dp .non (T := "str") rfl ⟨_, rfl, q0⟩⟩
    | lst a b => exact ⟨_, rfl, isi_dp (.lst a b) (T := "str") rfl ⟨_, rfl, q0⟩⟩
    | tup a b => exact ⟨_, rfl, isi_dp (.tup a b) (T := "str") rfl ⟨_, rfl, q0⟩⟩
theorem ok_is_mark {f : Addr} {fd : FuncData} (F : Fun K "is_mark" "is_mark" s_is_mark f fd) (T : Txt mg)  : FnOk P w K mg base CX0 1 f fd ["value"] (spMark K) := by
  refine F.ok sc_is_mark (fun vs H Q E h => ?_) (fun cdv A outer s H vs Q E hr h => ?_)
  · obtain ⟨F0, v, d, rfl, fs, hd, hx, q⟩ := h
    rfl
  · obtain ⟨F0, v, d, rfl, fs, hd, hx, q⟩ := h
    have hu64 := hr.units
    refine ⟨_, (pss_one (ps_ret (pe_and (pe_callB (cr_isi K) (by rfl) T.isinstance bt_isinstance (pa_cons (pv 0) (pa_cons (zty T.str bt_str) pa_nil))) (pe_and (pe_chain op_le op_le pe_int (pe_callB cr_lenS (by rfl) T.len bt_len (pa_cons (pv 0) pa_nil)) (zc T.c_MOST_SIGNS) rfl) (pe_one (pe_callB (cr_allD K) (by rfl) T.all bt_all (pa_cons (pe_lc (own := [("sign", 1)]) rfl sc_is_mark.nd (pi_str (pv 0)) (blkOk_by (N := sc_is_markN) (sc := defScope s_is_mark) (by decide +kernel)) (fun _ _ _ _ _ => (zg (i := 1) sc_is_mark.nd)) (fun _ _ _ _ _ => pts_nil) (fun _ _ _ _ _ => (pe_cmpR op_inS (pv 1) (zc T.c_MARK_SIGNS) rfl))) pa_nil))))))), ?_⟩
    have h1 := Dp.sees fs hd
    have q0 := q F0 H (Gr.refl fs)
    cases h1 with
    | str x =>
      have lz : x.length ≤ sizeLine := Nat.le_trans hx (by rw [sizeLine_eq]; decide)
      refine ⟨_, rfl, isi_dp (.str x) (T := "str") rfl ⟨_, rfl, _, rfl, .mk ⟨x, rfl, lz, _, _, rfl, rfl, _, rfl, ?_⟩⟩⟩
      refine ite2 (fun e1 => ?_) (fun e1 => ?_)
      · have e1 : (1 : Int) ≤ x.length := of_decide_eq_true e1
        refine ⟨_, _, rfl, rfl, _, rfl, ?_⟩
        refine ite2 (fun e2 => ?_) (fun e2 => ?_)
        · have e2 : (x.length : Int) ≤ 8 := of_decide_eq_true e2
          refine ⟨_, rfl, x, rfl, fun D hD => ?_⟩
          refine lc_bools K (bs := x.cps.toList) (f := fun c => occB "abcdefghijklmnopqrstuvwxyz+-" ⟨#[c]⟩) (Im := fun c v F => v = .str ⟨#[c]⟩) (by rw [Array.length_toList]; exact walk_str) fs (fun _ _ => True.intro) (by rw [Array.length_toList]; show x.length ≤ 100000; omega)
            (fun i c v F' H' H'' hc g1 y => ?_) (fun c v F' H' _ g1 im => ?_) hD fun F' H' g1 fD hDc => ?_
          · obtain ⟨rfl, c2, hc2, rfl⟩ := y
            rw [Array.getElem?_toList, hc2] at hc
            cases hc
            exact ⟨F', Gr.refl g1.fh, rfl⟩
          · subst im
            exact turn1 rfl fun Yes h => ⟨_, rfl, .mk ⟨_, _, rfl, rfl, h _ _ _ (Gr.refl g1.fh) rfl⟩⟩
          · have q1 := q F' H' g1
            rw [show isMark (.str x) = (x.cps.toList.map fun c => occB "abcdefghijklmnopqrstuvwxyz+-" ⟨#[c]⟩).all id by simp [isMark, markS, e1, e2, List.all_map]] at q1
            exact all_new hDc q1
        · have e2 : ¬ (x.length : Int) ≤ 8 := fun z => e2 (decide_eq_true z)
          rw [show isMark (.str x) = false by simp [isMark, markS, e2]] at q0
          exact q0
      · have e1 : ¬ (1 : Int) ≤ x.length := fun z => e1 (decide_eq_true z)
        rw [show isMark (.str x) = false by simp [isMark, markS, e1]] at q0
        exact ⟨_, rfl, q0⟩
    | int i => exact ⟨_, rfl, isi_dp (.int i) (T := "str") rfl ⟨_, rfl, q0⟩⟩
    | bl b => exact ⟨_, rfl, isi_dp (.bl b) (T := "str") rfl ⟨_, rfl, q0⟩⟩
    | non => exact ⟨_, rfl, isi_dp .non (T := "str") rfl ⟨_, rfl, q0⟩⟩
    | lst a b => exact ⟨_, rfl, isi_dp (.lst a b) (T := "str") rfl ⟨_, rfl, q0⟩⟩
    | tup a b => exact ⟨_, rfl, isi_dp (.tup a b) (T := "str") rfl ⟨_, rfl, q0⟩⟩
theorem ok_is_heard {f : Addr} {fd : FuncData} (F : Fun K "is_heard" "is_heard" s_is_heard f fd) (T : Txt mg) (C_is_mark : Cal P w K mg base "is_mark" 1 ["value"] [] (spMark K)) : FnOk P w K mg base CX0 2 f fd ["value"] (spHeard K) := by
  refine F.ok sc_is_heard (fun vs H Q E h => ?_) (fun cdv A outer s H vs Q E hr h => ?_)
  · obtain ⟨F0, v, d, rfl, fs, hd, hx, q⟩ := h
    rfl
  · obtain ⟨F0, v, d, rfl, fs, hd, hx, q⟩ := h
    have hu64 := hr.units
    refine ⟨_, (pss_one (ps_ret (pe_and (pe_callB (cr_isi K) (by rfl) T.isinstance bt_isinstance (pa_cons (pv 0) (pa_cons (zty T.str bt_str) pa_nil))) (pe_one (pe_or (pe_cmpR op_eq (pv 0) pe_str (nomark _)) (pe_one (pe_cal C_is_mark (hr.mono (by decide)) (pa_cons (pv 0) pa_nil)))))))), ?_⟩
    have h1 := Dp.sees fs hd
    have q0 := q F0 H (Gr.refl fs)
    cases h1 with
    | str x =>
      refine ⟨_, rfl, isi_dp (.str x) (T := "str") rfl ⟨_, rfl, _, rfl, rfl, _, rfl, ?_⟩⟩
      refine ite2 (fun e => ?_) (fun e => ?_)
      · have e : x = "" := V.str.inj (of_decide_eq_true e)
        rw [show isHeard (.str x) = true by simp [isHeard, e]] at q0
        exact q0
      · have e : ¬ x = "" := fun z => e (decide_eq_true (congrArg V.str z))
        refine ⟨_, rfl, F0, _, .str x, rfl, fs, .str x, hx, fun F1 H1 g => ?_⟩
        have q1 := q F1 H1 g
        rw [show isHeard (.str x) = isMark (.str x) by simp [isHeard, isMark, e]] at q1
        exact q1
    | int i => exact ⟨_, rfl, isi_dp (.int i) (T := "str") rfl ⟨_, rfl, q0⟩⟩
    | bl b => exact ⟨_, rfl, isi_dp (.bl b) (T := "str") rfl ⟨_, rfl, q0⟩⟩
    | non => exact ⟨_, rfl, isi_dp .non (T := "str") rfl ⟨_, rfl, q0⟩⟩
    | lst a b => exact ⟨_, rfl, isi_dp (.lst a b) (T := "str") rfl ⟨_, rfl, q0⟩⟩
    | tup a b => exact ⟨_, rfl, isi_dp (.tup a b) (T := "str") rfl ⟨_, rfl, q0⟩⟩
end
end TW
set_option Elab.async false
set_option linter.all false
set_option maxRecDepth 100000
set_option maxHeartbeats 8000000
/-! Speech -/
namespace TW
open PySem PySem.Spec PyProof.Rows L2 RZ StX
open Evl (Ex)
abbrev Arr := Int × Str × Int
def encA (a : Arr) : PyData := .tuple [.int a.1, .str a.2.1, .int a.2.2]
theorem encA_eqv (a b : Arr) : PyData.eqv (encA a) (encA b) = decide (a = b) := by
  obtain ⟨p, x, r⟩ := a
  obtain ⟨p', x', r'⟩ := b
  simp only [encA, PyData.eqv, PyData.eqvAll, Bool.and_true]
  by_cases h1 : p = p' <;> by_cases h2 : x = x' <;> by_cases h3 : r = r' <;> simp [h1, h2, h3]
theorem encA_shaped (a : Arr) (h : PyData.strOk a.2.1 = true) : SeqAt.shaped (encA a) = true := by
  simp [h, encA, SeqAt.shaped, PyData.canLay0, PyData.canLayAll0, PyData.depth, PyData.depthAll]
theorem encA_alike (a b : Arr) : PySem.W.alike (encA a) (encA b) = true := by simp [encA, PySem.W.alike, PySem.W.alikeAll]
theorem encA_depth (a : Arr) : (encA a).depth ≤ 8 := by simp [encA, PyData.depth, PyData.depthAll]
/-- neighbours in a list without repeats differ -/
theorem neigh : ∀ {l : List Arr}, l.Nodup → ∀ b ∈ l.zip (l.drop 1), ¬ b.1 = b.2
  | [], _, b, h => absurd h (by simp)
  | [_], _, b, h => absurd h (by simp)
  | x :: y :: r, nd, b, h => by
    obtain ⟨h1, h2⟩ := List.nodup_cons.mp nd
    rcases List.mem_cons.mp (show b ∈ (x, y) :: (y :: r).zip r from h) with rfl | h
    · exact fun e => h1 (by show x ∈ y :: r; rw [show x = y from e]; exact List.mem_cons_self)
    · exact neigh h2 b h
/-- a Speech: its arrows, starts, places, sounds -/
structure SpD where
  A : List Arr
  S : List Int
  P : List Int
  Z : List Str
structure SpD.Ok (s : SpD) : Prop where
  asc : s.P.Pairwise (· < ·)
  pl : ∀ k, k ∈ s.P ↔ k ∈ s.S ∨ (∃ a ∈ s.A, a.1 = k) ∨ ∃ a ∈ s.A, a.2.2 = k
  so : ∀ z, z ∈ s.Z ↔ ∃ a ∈ s.A, a.2.1 = z
  nd : s.Z.Nodup
def spF (va vs vp vz vd : V) : List (Str × V) := putF "own_from" vd (putF "sounds" vz (putF "places" vp (putF "starts" vs (putF "arrows" va []))))
/-- at x stands the Speech s -/
structure SpAt (K : PySem.W.Frag) (C : Addr) (F : Hp) (x : Addr) (s : SpD) : Prop where
  ex : ∃ dx va vs vp vz vd, F x = some (.ins C dx (spF va vs vp vz vd)) ∧ Dp K F va (.tuple (s.A.map encA)) ∧ Dp K F vs (.tuple (s.S.map .int)) ∧ Dp K F vp (.tuple (s.P.map .int)) ∧ Dp K F vz (.tuple (s.Z.map .str)) ∧ TupR F vp (s.P.map V.int)
  ok : s.Ok
structure SpC (K : PySem.W.Frag) (C : Addr) : Prop where
  cl : Cls K C
  nA : NoAttr K C "arrows"
  nS : NoAttr K C "starts"
  nP : NoAttr K C "places"
  nZ : NoAttr K C "sounds"
  nO : NoAttr K C "own_from"
theorem SpAt.ex' {K : PySem.W.Frag} {C : Addr} {F F' : Hp} {x : Addr} {s : SpD} (h : SpAt K C F x s) (e : Ex F F') : SpAt K C F' x s := by
  obtain ⟨⟨dx, va, vs, vp, vz, vd, h1, h2, h3, h4, h5, h6⟩, ok⟩ := h
  exact ⟨⟨dx, va, vs, vp, vz, vd, e _ _ h1, h2.ex e, h3.ex e, h4.ex e, h5.ex e, h6.ex e⟩, ok⟩
def okArr (a : Arr) : Bool := isSound (.str a.2.1) && (isWithin 0 399 (.int a.1) && isWithin 0 399 (.int a.2.2))
/-- Speech(arrows, starts), all in order -/
def spSpI (K : PySem.W.Frag) (C : Addr) : Sp := fun vs H Q _ => ∃ (F : Hp) (x dx : Addr) (va vst : V) (da ds : PyData) (A : List Arr) (S : List Int) (e : Arr → PyData), vs = [.ref x, va, vst] ∧ H x = some (.ins C dx []) ∧ F x = none ∧ Sees F H ∧ Dp K F va da ∧ isSeq da (A.map e) ∧ (∀ a, isSeq (e a) [.int a.1, .str a.2.1, .int a.2.2]) ∧ Dp K F vst ds ∧ isSeq ds (S.map .int) ∧
  A.length ≤ 2000 ∧ S.length ≤ 80 ∧ A.all okArr = true ∧ (∀ a ∈ A, a.2.1.length ≤ 1000 ∧ PyData.strOk a.2.1 = true) ∧ A.Nodup ∧ isLot ds = true ∧ S ≠ [] ∧
  ∀ (s : SpD) (F' H' : Hp), s.A.Perm A → s.S = S → Gr [x] F H F' H' → F' x = none → SpAt K C (upd F' x ((H' x).getD (.own 0))) x s → Q .non H'
section
variable {P : Program} {w : World} {K : PySem.W.Frag} {mg : Str → Option Value} {base : Heap}
end
end TW
set_option Elab.async false
set_option linter.all false
set_option maxRecDepth 100000
set_option maxHeartbeats 4000000
/-! sorted(v), v a list or a tuple of data -/
namespace TW
open PySem PySem.Spec PyProof.Rows L2 RZ StX PySem.W
open Evl (Ex)
section
variable {prog : Program} {w : World} {A : Around} {E : Value → Shared → Prop} {s : Shared}
theorem collect_tupV {l : Addr} {vs : List Value} {Q : List Value → Shared → Prop} (hl : s.heap.IsTuple l vs.toArray)
    (h : Q vs { s with heap := (s.heap.push (seqObj "list" #[] 0)).update s.heap.objs.size (Obj.mapSeq (· ++ vs.toArray)) }) (hsz : vs.length ≤ sizeLine) :
    wpAny (model prog w) A (collect (.ref l)) Q E s := by
  obtain ⟨o, ho, hc, n, hd⟩ := id hl
  unfold collect
  refine wpAny_bind (wpAny_runValue (codeAny_builtin entry_proto_collect' ?_))
  show wpAny _ _ (do again (.builtin "list.__iadd__" ⟨[← newList [], .ref l], []⟩)) _ _ s
  refine wpAny_bind (wpAny_newList (wpAny_pure ⟨Code.quiet_builtin _ (by decide +kernel), codeAny_builtin entry_list_iadd' ?_⟩))
  show wpAny _ _ (Builtin.List.listExtendWith (.ref s.heap.objs.size) (.ref l) (.ref s.heap.objs.size)) _ _ { s with heap := s.heap.push (seqObj "list" #[] 0) }
  unfold Builtin.List.listExtendWith
  have ho' : (s.heap.push (seqObj "list" #[] 0)).get? l = some o := Heap.get?_push_of_some _ ho
  refine wpAny_bind (wpAny_typeOf (T := "tuple") ⟨o, ho', hc⟩ ?_)
  have ht : (Value.type "tuple" == Value.type "tuple") = true := by rfl
  rw [if_pos (by rw [ht]; simp)]
  refine wpAny_bind (listItems_at ho' hd ?_)
  refine wpAny_bind (listItems_at (xs := #[]) (n := 0) (Heap.get?_push_size _ rfl) rfl ?_)
  rw [if_neg (by simp)]
  refine wpAny_bind (listUpdate_at (xs := #[]) (n := 0) (Heap.get?_push_size _ rfl) rfl ?_ (Nat.zero_le _) (by show (#[] ++ vs.toArray).size ≤ sizeLine + 1; simp only [Array.size_append, List.size_toArray, List.length_nil]; omega))
  refine wpAny_pure ?_
  show wpAny (model prog w) A (do
      let o ← load s.heap.objs.size
      match o.data with
      | .seq xs _ => pure xs.toList
      | _ => unsupported "internal:collect") Q E { s with heap := (s.heap.push (seqObj "list" #[] 0)).update s.heap.objs.size (Obj.mapSeq (· ++ vs.toArray)) }
  refine wpAny_bind (wpAny_load (get?_update_seq (Heap.get?_push_size _ rfl) _) ?_)
  show wpAny _ _ (pure ((#[] : Array Value) ++ vs.toArray).toList) Q E _
  rw [show ((#[] : Array Value) ++ vs.toArray).toList = vs by simp]
  exact wpAny_pure h
theorem sorted_tupV {l : Addr} {vs : List Value} {Q : Value → Shared → Prop} (hl : s.heap.IsTuple l vs.toArray) (hL : vs.length ≤ sizeLine)
    (body : ∀ E' : Value → Shared → Prop, wpAny (model prog w) A.in1.in1 (Builtin.«list.sort» ⟨[.ref (s.heap.objs.size + 1)], []⟩) (fun f s' => f = .done (.ret .none) ∧ Q (.ref (s.heap.objs.size + 1)) s') E' { s with heap := copyHeap s.heap vs }) :
    wpAny (model prog w) A (call (.builtin "sorted") [.ref l]) Q E s := by
  refine call_function_entry_kw (kw := []) kind_sorted plain_sorted entry_sorted (args_sorted1 _) ?_
  unfold Builtin.«sorted»
  refine wpAny_bind (m := checkCount "sorted" 1 1 _) (wpAny_pure ?_)
  refine wpAny_bind (collect_tupV hl ?_ hL)
  refine wpAny_bind (wpAny_newList ?_ hL)
  have hsz : ((s.heap.push (seqObj "list" #[] 0)).update s.heap.objs.size (Obj.mapSeq (· ++ vs.toArray))).objs.size = s.heap.objs.size + 1 := by
    rw [Heap.size_update, size_push']
  show wpAny _ _ _ _ _ { s with heap := copyHeap s.heap vs }
  rw [hsz]
  refine wpAny_bind (wpAny_holding (wpAny_call_entry_kw (kw := []) PyProof.Rows.slot_list_sort ⟨_, copyHeap_at s.heap vs, rfl⟩ PyProof.Rows.entry_list_sort ?body (args_list_sort _)))
  case body =>
    show wpAny (model prog w) A.in1.in1 (Builtin.«list.sort» ⟨[.ref (s.heap.objs.size + 1)], []⟩) _ _ _
    refine wpAny_mono (body _) (fun f s' hf => ?_) fun _ _ e => e
    obtain ⟨rfl, hq⟩ := hf
    exact ⟨_, rfl, wpAny_pure ⟨_, rfl, hq⟩⟩
theorem sorted_dataT {β : Type} {vs : List Value} {bs : List β} {enc : β → PyData} {R : Value → β → Prop} {l : Addr} {Q : Value → Shared → Prop} (hl : s.heap.IsTuple l vs.toArray) (e : EachIs R vs bs) (er : EachIs (fun v b => ∃ as, Reads s.heap v (enc b) as) vs bs) (hal : AllAlike (bs.map enc)) (hk : Sortable (bs.map enc)) (hL : bs.length ≤ sizeLine)
    (hu : ∀ b, b ∈ bs → A.units + 2 + (enc b).depth < cLine) (h : ∀ out, out.length = bs.length → EachIs R out (bs.mergeSort (dataLe false enc)) → Q (.ref (s.heap.objs.size + 1)) { s with heap := sortedAll s.heap vs (List.toArray out) }) :
    wpAny (model prog w) A (call (.builtin "sorted") [.ref l]) Q E s := by
  have er' : EachIs (fun v b => ∃ as, Reads (sortingHeap (copyHeap s.heap vs) (s.heap.objs.size + 1) vs) v (enc b) as) vs bs := er.mono fun _ _ ⟨as, r⟩ => ⟨as, PyProof.Rows.Reads.keeps (fun _ _ => sorting_copy_old) r⟩
  have hLv : vs.length ≤ sizeLine := by rw [e.length]; exact hL
  refine sorted_tupV hl hLv fun E' => list_sort_vals (s := { s with heap := copyHeap s.heap vs }) (copyHeap_at s.heap vs) (SortsAt.data (s := { s with heap := sortingHeap (copyHeap s.heap vs) (s.heap.objs.size + 1) vs }) (each_map (R := fun v d => ∃ as, Reads (sortingHeap (copyHeap s.heap vs) (s.heap.objs.size + 1) vs) v d as) enc er') hal hk (bound_map hu)) hLv ⟨rfl, ?_⟩
  exact h _ (by rw [sortVals_length false rfl]; exact e.length) (sortVals_data false e er' hal)
end
/-- sorted(v), v a list or a tuple of data that can be ordered -/
def rSortedQ (K : PySem.W.Frag) : List V → Hp → VK → Prop := fun vs H Q => ∃ (β : Type) (enc : β → PyData) (bs : List β) (a : Addr) (xs : List V) (F : Hp), vs = [.ref a] ∧ Sees F H ∧ (SqL K H a xs ∨ SqT K H a xs) ∧ DpAll K F xs (bs.map enc) ∧ AllAlike (bs.map enc) ∧ Sortable (bs.map enc) ∧
  (∀ b ∈ bs, (enc b).depth ≤ 8) ∧ ∀ (ys : List V) p, DpAll K F ys ((bs.mergeSort (dataLe false enc)).map enc) → H p = none → Q (.ref p) (upd H p (.lst ys))
variable {X : Cx}
theorem cr_sortedQ (K : PySem.W.Frag) (hu : X.A.units + 16 < cLine) (hK : X.K = K := by rfl) : CallR X (.builtin "sorted") (rSortedQ K) := by
  subst hK
  intro pins s σ H vs us Q I r h
  obtain ⟨β, enc, bs, a, xs, F, rfl, hse, hs | hs, hd, hal, hso, hdep, q⟩ := h
  · exact cr_sortedD X.K hu rfl pins s σ H _ us Q I r ⟨β, enc, bs, a, xs, F, rfl, hse, hs, hd, hal, hso, hdep, q⟩
  rw [Vals.ref1 r]
  obtain ⟨its, rv, pl, hz⟩ := I.tuple hs
  have e1 : EachIs (fun u b => ∃ v, L2.RelV v u ∧ Dp X.K F v (enc b)) its bs := each_dp hd rv
  have e2 : EachIs (fun v b => ∃ as, Reads s.heap v (enc b) as) its bs := e1.mono fun u b ⟨v, r, d⟩ => Dp.reads I (enc b) v u (Dp.sees hse d) r
  refine sorted_dataT pl e1 e2 hal hso (by rw [← e1.length, ← rv.length]; exact hz) (fun b hb => by have := hdep b hb; omega) fun out ho he => ?_
  obtain ⟨ys, hv, hy⟩ := dpAll_map he
  obtain ⟨ep, he'⟩ := PyProof.Rows.sortedAll_at s.heap its out.toArray
  have hlen : ys.length ≤ sizeLine := by rw [hv.length, ho, ← e1.length, ← rv.length]; exact hz
  exact ⟨.ref _, upd H (s.heap.objs.size + 1) (.lst ys), I.laid (t' := s.toks) (fun _ _ => PyProof.Rows.sortedAll_old) (Nat.le_succ _) ⟨hlen, out, ep, hv, he'⟩, rfl, q ys _ hy (I.hok.fresh (Nat.le_succ _))⟩
end TW
set_option Elab.async false
set_option linter.all false
set_option maxRecDepth 100000
set_option maxHeartbeats 8000000
/-! Wall -/
namespace TW
open PySem PySem.Spec PyProof.Rows L2 RZ StX
open Evl (Ex)
theorem sle_data : PySem.W.dataLe false (fun x : Str => PyData.str x) = sle := PySem.W.dataLe_str (k := id)
theorem sle_sorted (l : List Str) : (l.mergeSort (PySem.W.dataLe false fun x : Str => PyData.str x)).Pairwise (fun x y => sle x y = true) := by
  rw [sle_data]
  exact List.pairwise_mergeSort sle_trans sle_total l
theorem nodup_len {α : Type} [DecidableEq α] {l m : List α} (h1 : l.Nodup) (h2 : m.Nodup) (h : ∀ k, k ∈ l ↔ k ∈ m) : l.length = m.length := ((List.perm_ext_iff_of_nodup h1 h2).mpr h).length_eq
abbrev eS : Str → PyData := .str
theorem eS_alike (a b : Str) : PySem.W.alike (eS a) (eS b) = true := by simp [PySem.W.alike]
theorem eS_other (b : Str) : eS b ≠ .none ∧ ∀ xs, eS b ≠ .tuple xs := ⟨by simp, fun xs => by simp⟩
theorem eS_depth (a : Str) : (eS a).depth ≤ 8 := by simp [PyData.depth]
/-- marks told one by one, each once -/
def spMarks (K : PySem.W.Frag) : Sp := fun vs H Q _ => ∃ (F : Hp) (v : V) (d : PyData) (l : List Str), vs = [v] ∧ Sees F H ∧ Dp K F v d ∧ isSeq d (l.map .str) ∧ 1 ≤ l.length ∧ l.length ≤ 6 ∧ (∀ z ∈ l, z.length ≤ 1000 ∧ isHeard (.str z) = true) ∧ l.Nodup ∧ ∀ F' H', Gr [] F H F' H' → Q (.bl true) H'
structure WaD where
  ks : List Str
  m : Str → List Str
  all : List Str
structure WaD.Ok (s : WaD) : Prop where
  nd : s.ks.Nodup
  al : ∀ z, z ∈ s.all ↔ z ≠ "" ∧ ∃ k ∈ s.ks, z ∈ s.m k
  an : s.all.Nodup
  ms : ∀ k ∈ s.ks, (s.m k).Pairwise (fun x y => sle x y = true)
  as : s.all.Pairwise (fun x y => sle x y = true)
def waF (vm vs va : V) : List (Str × V) := putF "all_marks" va (putF "sounds" vs (putF "own_marks" vm []))
/-- at a a dict that tells m (as lists | as tuples) at the keys ks -/
structure Tells (K : PySem.W.Frag) (F : Hp) (kvs : List (Key × V)) (ks : List Str) (m : Str → List Str) (enc : List PyData → PyData) : Prop where
  ke : kvs.map (·.1) = ks.map Sum.inr
  va : ∀ s ∈ ks, ∃ v, valV kvs (Sum.inr s) = some v ∧ Dp K F v (enc ((m s).map .str))
theorem Tells.ex {K : PySem.W.Frag} {F F' : Hp} {kvs : List (Key × V)} {ks : List Str} {m : Str → List Str} {enc : List PyData → PyData} (h : Tells K F kvs ks m enc) (e : Ex F F') : Tells K F' kvs ks m enc :=
  ⟨h.ke, fun s hs => by obtain ⟨v, h1, h2⟩ := h.va s hs; exact ⟨v, h1, h2.ex e⟩⟩
structure WaAt (K : PySem.W.Frag) (C : Addr) (F : Hp) (x : Addr) (s : WaD) : Prop where
  ex : ∃ dx D vs va kvs, F x = some (.ins C dx (waF (.ref D) vs va)) ∧ F D = some (.dK kvs) ∧ Tells K F kvs s.ks s.m .tuple ∧ Dp K F va (.tuple (s.all.map .str))
  ok : s.Ok
structure WaC (K : PySem.W.Frag) (C : Addr) : Prop where
  cl : Cls K C
  nM : NoAttr K C "own_marks"
  nS : NoAttr K C "sounds"
  nA : NoAttr K C "all_marks"
theorem WaAt.ex' {K : PySem.W.Frag} {C : Addr} {F F' : Hp} {x : Addr} {s : WaD} (h : WaAt K C F x s) (e : Ex F F') : WaAt K C F' x s := by
  obtain ⟨⟨dx, D, vs, va, kvs, h1, h2, h3, h4⟩, ok⟩ := h
  exact ⟨⟨dx, D, vs, va, kvs, e _ _ h1, e _ _ h2, h3.ex e, h4.ex e⟩, ok⟩
/-- its dict is not being walked -/
def WaFree (C : Addr) (F H : Hp) (x : Addr) : Prop := ∀ dx D vs va kvs, F x = some (.ins C dx (waF (.ref D) vs va)) → F D = some (.dK kvs) → H D = some (.dK kvs)
theorem waF_inj {D D' : Addr} {vs vs' va va' : V} (h : waF (.ref D) vs va = waF (.ref D') vs' va') : D = D' := by
  have z : some (V.ref D) = some (V.ref D') := congrArg (List.lookup ("own_marks" : Str)) h
  exact V.ref.inj (Option.some.inj z)
theorem WaFree.gr {K : PySem.W.Frag} {C : Addr} {B : List Addr} {F H F' H' : Hp} {x : Addr} {s : WaD} (h : WaFree C F H x) (w : WaAt K C F x s) (g : Gr B F H F' H') (nB : ∀ b ∈ B, F b = none) : WaFree C F' H' x := by
  obtain ⟨⟨dx, D, vs, va, kvs, h1, h2, _⟩, _⟩ := w
  intro dx' D' vs' va' kvs' e1 e2
  have z := g.ff _ _ h1
  rw [e1] at z
  have e : D' = D := waF_inj (HO.ins.inj (Option.some.inj z)).2.2
  subst e
  have z2 := g.ff _ _ h2
  rw [e2] at z2
  obtain rfl : kvs' = kvs := HO.dK.inj (Option.some.inj z2)
  exact g.hh _ _ (fun m => by rw [nB _ m] at h2; cases h2) (h _ _ _ _ _ h1 h2)
def spWaI (K : PySem.W.Frag) (C : Addr) : Sp := fun vs H Q _ => ∃ (F : Hp) (x dx a : Addr) (kvs : List (Key × V)) (ks : List Str) (m : Str → List Str) (e : List PyData → PyData), vs = [.ref x, .ref a] ∧ H x = some (.ins C dx []) ∧ F x = none ∧ Sees F H ∧ F a = some (.dK kvs) ∧ H a = some (.dK kvs) ∧ Tells K F kvs ks m e ∧ (∀ l, isSeq (e l) l) ∧
  ks ≠ [] ∧ ks.length ≤ 100 ∧ ks.Nodup ∧ (∀ s ∈ ks, s.length ≤ 1000 ∧ isSound (.str s) = true) ∧ (∀ s ∈ ks, 1 ≤ (m s).length ∧ (m s).length ≤ 6 ∧ (∀ z ∈ m s, z.length ≤ 1000 ∧ isHeard (.str z) = true) ∧ (m s).Nodup) ∧
  ∀ (s : WaD) (F' H' : Hp), s.ks.Perm ks → (∀ k ∈ ks, (s.m k).Perm (m k)) → Gr [x] F H F' H' → F' x = none → WaAt K C (upd F' x ((H' x).getD (.own 0))) x s → WaFree C (upd F' x ((H' x).getD (.own 0))) H' x → Q .non H'
section
variable {P : Program} {w : World} {K : PySem.W.Frag} {mg : Str → Option Value} {base : Heap}
theorem ok_are_marks {f : Addr} {fd : FuncData} (F : Fun K "are_marks" "are_marks" s_are_marks f fd) (T : Txt mg) (C_is_listed : Cal P w K mg base "is_listed" 1 ["value"] [] (spListed K)) (C_is_heard : Cal P w K mg base "is_heard" 2 ["value"] [] (spHeard K)) :
    FnOk P w K mg base CX0 3 f fd ["value"] (spMarks K) := by
  refine F.ok sc_are_marks (fun vs H Q E h => ?_) (fun cdv A outer s H vs Q E hr h => ?_)
  · obtain ⟨F0, v, d, l, rfl, _⟩ := h
    rfl
  · obtain ⟨F0, v, d, l, rfl, fs, hd, hq, l1, l6, hz, nd, q⟩ := h
    refine ⟨_, (pss_cons (ps_if (PW.pt (pw_or (pt_not (pt_val (pe_cal C_is_listed (hr.mono (by decide)) (pa_cons (pv 0) pa_nil)))) (pw_or (pt_not (pt_chain op_le op_le pe_int (pe_callB (cr_len K) (by rfl) T.len bt_len (pa_cons (pv 0) pa_nil)) (zc T.c_MOST_MARKS) rfl)) (pw_or1 (pt_not (pt_val (pe_callB (cr_allD K) (by rfl) T.all bt_all (pa_cons (pe_lc (own := [("mark", 1)]) rfl sc_are_marks.nd (zseq K (pv 0)) (blkOk_by (N := sc_are_marksN) (sc := defScope s_are_marks) (by decide +kernel)) (fun _ _ _ _ _ => (zg (i := 1) sc_are_marks.nd)) (fun _ _ _ _ _ => pts_nil) (fun _ _ _ _ _ => (pe_cal C_is_heard (hr.mono (by decide)) (pa_cons (pv 1) pa_nil)))) pa_nil))))))))
        (pss_one (ps_ret pe_bl))
        pss_nil)
      (pss_one (ps_ret (pe_cmpR op_eq (pe_callB (cr_lenK w) (by rfl) T.len bt_len (pa_cons (pe_callTy (cr_setK K w) (by rfl) T.set bt_set (pa_cons (pv 0) pa_nil)) pa_nil)) (pe_callB (cr_len K) (by rfl) T.len bt_len (pa_cons (pv 0) pa_nil)) (nomark _))))), ?_⟩
    have hl : isListed d = true := by rcases hq with rfl | rfl <;> rfl
    refine ⟨v, rfl, F0, v, d, rfl, fs, hd, fun F1 H1 g1 => ⟨_, rfl, ?_⟩⟩
    rw [hl]
    refine iteF ⟨v, rfl, len_dp (hd.ex g1.ff) hq g1.fh ⟨_, _, rfl, rfl, _, rfl, ?_⟩⟩
    refine iteYes (decide_eq_true (by rw [List.length_map]; omega)) ⟨_, _, rfl, rfl, ?_⟩
    refine ⟨_, rfl, iteNo (by rw [List.length_map]; simp; omega) ?_⟩
    refine ⟨v, rfl, seq_walk (hd.ex g1.ff) hq g1.fh fun J xs G w1 hG hxs hlen D hD => ?_⟩
    refine lc_seqB (bs := l) (enc := .str) (f := fun z => isHeard (.str z)) w1 hxs g1.fh hG (by omega) (fun b y F' H' hb g2 hy => turn1 rfl fun Yes h => ⟨_, rfl, F', y, _, rfl, g2.fh, hy, (hz b hb).1, fun F3 H3 g3 => h _ _ _ g3 rfl⟩) hD fun F2 H2 g2 fD hDc => ?_
    refine all_new hDc ⟨_, rfl, ?_⟩
    rw [List.all_map, show l.all (id ∘ fun z => isHeard (.str z)) = true from List.all_eq_true.mpr fun z h => (hz z h).2]
    refine iteF ?_
    have gA := g1.trans g2
    obtain ⟨a, zs, rfl, hs, hzs⟩ := dp_seq (hd.ex gA.ff) hq
    rw [dps_str] at hzs
    subst hzs
    refine ⟨_, rfl, a, l.map Sum.inr, rfl, by rw [keys_str]; exact hs.imp (sees_l gA.fh) (sees_t gA.fh), by rw [List.length_map]; omega, fun q1 n hq1 hn hex => ⟨q1, l.map Sum.inr, n, rfl, upd_same, ?_⟩⟩
    have gB := gA.newM (o := SKO w q1 (l.map Sum.inr) n) hq1
    refine ⟨_, rfl, len_dp (hd.ex gB.ff) hq gB.fh ⟨rfl, ?_⟩⟩
    obtain ⟨l', n1, n2, n3⟩ := hex
    have e : n = l.length := by
      rw [← n2]
      have z := nodup_len n1 (m := l.map Sum.inr) (List.pairwise_map.mpr (nd.imp fun h e => h (Sum.inr.inj e))) n3
      rw [List.length_map] at z
      exact z
    have q0 := q _ _ gB
    rw [show decide (V.int n = V.int (l.map PyData.str).length) = true from decide_eq_true (by rw [e, List.length_map])]
    exact q0
/-- the keys as the walk gives them -/
theorem tells_at {F : Hp} {kvs : List (Key × V)} {ks : List Str} {m : Str → List Str} {enc : List PyData → PyData} (h : Tells K F kvs ks m enc) {i : Nat} {k : Key} {v : V} {s : Str} (e : kvs[i]? = some (k, v)) (es : ks[i]? = some s) : k = Sum.inr s := by
  have z := congrArg (·[i]?) h.ke
  simp only [List.getElem?_map, e, es, Option.map_some] at z
  exact Option.some.inj z
theorem tells_len {F : Hp} {kvs : List (Key × V)} {ks : List Str} {m : Str → List Str} {enc : List PyData → PyData} (h : Tells K F kvs ks m enc) : kvs.length = ks.length := by
  have z := congrArg List.length h.ke
  rw [List.length_map, List.length_map] at z
  exact z
theorem tells_keys {F : Hp} {kvs : List (Key × V)} {ks : List Str} {m : Str → List Str} {enc : List PyData → PyData} (h : Tells K F kvs ks m enc) : (kvs.map fun kv => kV kv.1) = ks.map V.str := by
  have z := congrArg (List.map kV) h.ke
  rw [List.map_map, keys_str] at z
  exact z
theorem alikeS (l : List Str) : PySem.W.AllAlike (l.map eS) := fun d hd e he => by
  obtain ⟨a, _, rfl⟩ := List.mem_map.mp hd
  obtain ⟨b, _, rfl⟩ := List.mem_map.mp he
  exact eS_alike a b
theorem sortableS (l : List Str) : PySem.W.Sortable (l.map eS) := .inr fun d hd => by
  obtain ⟨a, _, rfl⟩ := List.mem_map.mp hd
  exact eS_other a
theorem tells_put {F : Hp} {acc : List (Key × V)} {ks : List Str} {m : Str → List Str} {enc : List PyData → PyData} {i : Nat} {b : Str} {z : V} (h : Tells K F acc (ks.take i) m enc) (nd : ks.Nodup) (hb : ks[i]? = some b) (hz : Dp K F z (enc ((m b).map .str))) :
    Tells K F (putK acc (Sum.inr b) z) (ks.take (i + 1)) m enc := by
  have tk : ks.take (i + 1) = ks.take i ++ [b] := by rw [List.take_add_one, hb]; rfl
  have nb : b ∉ ks.take i := by
    have z := nd.sublist (List.take_sublist (i + 1) ks)
    rw [tk] at z
    exact fun h => (List.nodup_append.mp z).2.2 b h b (by simp) rfl
  have vn : valV acc (Sum.inr b) = none := by
    cases e : valV acc (Sum.inr b) with
    | none => rfl
    | some v =>
      have z := valV_in e
      rw [h.ke, List.mem_map] at z
      obtain ⟨y, y1, y2⟩ := z
      cases y2
      exact absurd y1 nb
  refine ⟨by rw [putK_new _ vn, List.map_append, h.ke, tk, List.map_append]; rfl, fun s hs => ?_⟩
  rw [valV_put]
  by_cases e : s = b
  · subst e
    exact ⟨z, by rw [if_pos rfl], hz⟩
  · rw [if_neg (fun z => e (Sum.inr.inj z))]
    refine h.va s ?_
    rw [tk, List.mem_append, List.mem_singleton] at hs
    exact hs.resolve_right e
theorem ok_Wall_init {f C : Addr} {fd : FuncData} (F : Fun K "__init__" "Wall.__init__" s_Wall___init__ f fd) (T : Txt mg) (TW_ : WaC K C) (C_is_sound : Cal P w K mg base "is_sound" 1 ["value"] [] (spSound K)) (C_are_marks : Cal P w K mg base "are_marks" 3 ["value"] [] (spMarks K)) :
    FnOk P w K mg base CX0 4 f fd ["self", "marks"] (spWaI K C) := by
  refine F.ok sc_Wall___init__ (fun vs H Q E h => ?_) (fun cdv A outer s H vs Q E hr h => ?_)
  · obtain ⟨F0, x, dx, a, kvs, ks, m, e, rfl, _⟩ := h
    rfl
  · obtain ⟨F0, x, dx, a, kvs, ks, m, e, rfl, hx, fx, fs, fa, ha, tl, eseq, ne, zk, ndk, okk, okm, q⟩ := h
    have hu := hu_of hr
    have hu16 := hu16_of hr
    have hu8 := hu8_of hr
    have lk := tells_len tl
    refine ⟨_, (pss_cons (ps_if (PW.pt (pw_or (pt_not (pt_val (pe_callB (cr_isi K) (by rfl) T.isinstance bt_isinstance (pa_cons (pv 1) (pa_cons (zty T.dict bt_dict) pa_nil))))) (pw_or (pt_cmpR op_eq (pe_callB call_lenD (by rfl) T.len bt_len (pa_cons (pv 1) pa_nil)) pe_int (nomark _)) (pw_or1 (pt_not (pt_val (pe_callB (cr_allD K) (by rfl) T.all bt_all (pa_cons (pe_lock (pe_lc (own := [("sound", 2)]) rfl sc_Wall___init__.nd (pi_keys (pv 1)) (blkOk_by (N := sc_Wall___init__N) (sc := defScope s_Wall___init__) (by decide +kernel)) (fun _ _ _ _ _ => (zg (i := 2) sc_Wall___init__.nd)) (fun _ _ _ _ _ => pts_nil) (fun _ _ _ _ _ => (pe_cal C_is_sound (hr.mono (by decide)) (pa_cons (pv 2) pa_nil))))) pa_nil))))))))
        (pss_one ps_never)
        pss_nil)
      (pss_cons (ps_if (pt_not (pt_val (pe_callB (cr_allD K) (by rfl) T.all bt_all (pa_cons (pe_lock (pe_lc (own := [("sound", 2)]) rfl sc_Wall___init__.nd (pi_keys (pv 1)) (blkOk_by (N := sc_Wall___init__N) (sc := defScope s_Wall___init__) (by decide +kernel)) (fun _ _ _ _ _ => (zg (i := 2) sc_Wall___init__.nd)) (fun _ _ _ _ _ => pts_nil) (fun _ _ _ _ _ => (pe_cal C_are_marks (hr.mono (by decide)) (pa_cons (pe_dget hu (pv 1) (pv 2) (fun _ _ => rfl)) pa_nil))))) pa_nil))))
        (pss_one ps_never)
        pss_nil)
      (pss_cons (ps_fld (pv 0) (pe_dc (own := [("sound", 2)]) rfl sc_Wall___init__.nd (zseq K (pe_callB (cr_sortedD K hu16) (by rfl) T.sorted bt_sorted (pa_cons (pe_callTy (call_listD rfl) (by rfl) T.list bt_list (pa_cons (pv 1) pa_nil)) pa_nil))) (blkOk_by (N := sc_Wall___init__N) (sc := defScope s_Wall___init__) (by decide +kernel)) (fun _ _ _ _ _ => (zg (i := 2) sc_Wall___init__.nd)) (fun _ _ _ _ _ => pts_nil) (fun _ _ _ _ _ => (pv 2)) (fun _ _ _ _ _ => (pe_callTy (cr_tuple K) (by rfl) T.tuple bt_tuple (pa_cons (pe_callB (cr_sortedQ K hu16) (by rfl) T.sorted bt_sorted (pa_cons (pe_dget hu (pv 1) (pv 2) (fun _ _ => rfl)) pa_nil)) pa_nil)))) rfl)
      (pss_cons (ps_fld (pv 0) (pe_callTy cr_tupKD (by rfl) T.tuple bt_tuple (pa_cons (zfld K (pv 0)) pa_nil)) rfl)
      (pss_cons (ps_lock (ps_setLc2 (i := 3) (own := [("sound", 2), ("mark", 4)]) (vs1 := [4]) rfl sc_Wall___init__.nd rfl rfl (sw_true rfl rfl rfl (by decide +kernel)) (pi_keys (zfld K (pv 0))) (blkOk_by (N := sc_Wall___init__N) (sc := defScope s_Wall___init__) (by decide +kernel)) (by decide) (fun _ _ _ _ _ => (zg (i := 2) sc_Wall___init__.nd)) (fun _ _ _ _ _ => pts_nil) (fun _ _ _ _ _ => (zseq K (pe_dget hu (zfld K (pv 0)) (pv 2) (fun _ _ => rfl)))) (fun _ _ _ _ _ => (zg (i := 4) sc_Wall___init__.nd)) (fun _ _ _ _ _ => (pts_one (pt_cmpR op_ne (pv 4) pe_str (nomark _)))) (fun _ _ _ _ _ => (pv 4))))
      (pss_one (ps_fld (pv 0) (pe_callTy (cr_tuple K) (by rfl) T.tuple bt_tuple (pa_cons (pe_callB (cr_sortedKS w hu8) (by rfl) T.sorted bt_sorted (pa_cons (pe_callTy (cr_setK K w) (by rfl) T.set bt_set (pa_cons (pv 3) pa_nil)) pa_nil)) pa_nil)) rfl))))))), ?_⟩
    -- a dict, its keys sounds
    refine ⟨_, rfl, isi_dK ha (T := "dict") rfl ⟨_, rfl, iteF ?_⟩⟩
    refine ⟨_, rfl, a, kvs, rfl, ha, rfl, _, rfl, iteNo (fun e => ne (List.length_eq_zero_iff.mp (by have z := V.int.inj (of_decide_eq_true e); omega))) ?_⟩
    refine ⟨a, _, ha, True.intro, fun od => ⟨_, rfl, a, od, rfl, .inl ⟨kvs, upd_same, fun D hD => ?_⟩⟩⟩
    have na : upd H a (.frz od (.dK kvs)) a = some (.frz od (.dK kvs)) := upd_same
    refine lc_boolsG K (bs := ks) (f := fun z => isSound (.str z)) (Im := fun z x F => x = .str z) (by rw [← lk]; exact walk_keys) (sees_lock fs fa) (fun F' H' g => g.at na) (by omega) (fun i b x F' H' H'' hb g1 y => ?_)
      (fun b x F' H' hb g1 im => ?_) hD fun F1 H1 g1 fD hDc => ?_
    · obtain ⟨rfl, k, v, e1, rfl⟩ := y
      rw [tells_at tl e1 hb]
      exact ⟨F', Gr.refl g1.fh, rfl⟩
    · subst im
      exact turn1 rfl fun Yes h => ⟨_, rfl, F', _, .str b, rfl, g1.fh, .str b, (okk b hb).1, fun F3 H3 g3 => h _ _ _ g3 rfl⟩
    have nDa : D ≠ a := ne_of hDc (g1.at na) (fun z => nomatch z)
    refine ⟨g1.at na, all_new (by rw [upd_ne nDa]; exact hDc) ⟨_, rfl, ?_⟩⟩
    rw [List.all_map, show ks.all (id ∘ fun z => isSound (.str z)) = true from List.all_eq_true.mpr fun z h => (okk z h).2]
    refine iteF ?_
    have gA := Gr.unlock fa ha g1
    have ha1 : upd H1 a (.dK kvs) a = some (.dK kvs) := upd_same
    generalize upd H1 a (.dK kvs) = H2 at gA ha1 ⊢
    clear g1 hDc nDa na hD
    -- its values marks
    have fa1 := gA.ff _ _ fa
    have tl1 := tl.ex gA.ff
    refine ⟨a, _, ha1, True.intro, fun od => ⟨_, rfl, a, od, rfl, .inl ⟨kvs, upd_same, fun D hD => ?_⟩⟩⟩
    have na : upd H2 a (.frz od (.dK kvs)) a = some (.frz od (.dK kvs)) := upd_same
    refine lc_boolsG K (bs := ks) (f := fun _ => true) (Im := fun z x F => x = .str z) (by rw [← lk]; exact walk_keys) (sees_lock gA.fh fa1) (fun F' H' g => g.at na) (by omega) (fun i b x F' H' H'' hb g1 y => ?_)
      (fun b x F' H' hb g1 im => ?_) hD fun F3 H3 g3 fD hDc => ?_
    · obtain ⟨rfl, k, v, e1, rfl⟩ := y
      rw [tells_at tl e1 hb]
      exact ⟨F', Gr.refl g1.fh, rfl⟩
    · subst im
      obtain ⟨v, v1, v2⟩ := tl1.va b hb
      obtain ⟨m1, m2, m3, m4⟩ := okm b hb
      exact turn1 rfl fun Yes h => ⟨_, rfl, _, rfl, a, v, rfl, .inl ⟨kvs, Sum.inr b, .inr ⟨od, g1.at na⟩, rfl, v1.symm⟩, F', v, _, m b, rfl, g1.fh, v2.ex g1.ff, eseq _, m1, m2, m3, m4, fun F4 H4 g4 => h _ _ _ g4 rfl⟩
    have nDa : D ≠ a := ne_of hDc (g3.at na) (fun z => nomatch z)
    refine ⟨g3.at na, all_new (by rw [upd_ne nDa]; exact hDc) ⟨_, rfl, ?_⟩⟩
    rw [List.all_map, show ks.all (id ∘ fun _ => true) = true from List.all_eq_true.mpr fun z h => rfl]
    refine iteF ?_
    have gB := gA.trans (Gr.unlock fa1 ha1 g3)
    have ha2 : upd H3 a (.dK kvs) a = some (.dK kvs) := upd_same
    generalize upd H3 a (.dK kvs) = H4 at gB ha2 ⊢
    clear g3 hDc nDa na hD gA tl1 fa1 ha1
    -- own_marks
    have tl2 := tl.ex gB.ff
    refine ⟨_, rfl, a, kvs, rfl, .inl ha2, fun p1 hp1 => ?_⟩
    rw [tells_keys tl2]
    have g1 := gB.newM (o := .lst (ks.map V.str)) hp1
    refine ⟨Str, eS, ks, p1, ks.map V.str, F3, rfl, g1.fh, .inl (.inl upd_same), dps_str.mpr rfl, alikeS ks, sortableS ks, fun b _ => eS_depth b, fun ys p2 hy hp2 => ?_⟩
    generalize ek : ks.mergeSort (PySem.W.dataLe false eS) = ks2 at hy
    have pk : ks2.Perm ks := ek ▸ List.mergeSort_perm _ _
    have nd2 : ks2.Nodup := pk.nodup_iff.mpr ndk
    have hys := dps_str.mp hy
    subst hys
    have g2 := g1.newM (o := .lst (ks2.map V.str)) hp2
    have s2 : upd (upd H4 p1 (.lst (ks.map V.str))) p2 (.lst (ks2.map V.str)) p2 = some (.lst (ks2.map V.str)) := upd_same
    generalize upd (upd H4 p1 (.lst (ks.map V.str))) p2 (.lst (ks2.map V.str)) = H5 at g2 s2 ⊢
    clear g1 hp2 hp1 hy gB ha2
    refine .mk ⟨p2, _, rfl, .inl ⟨.inl (.inl s2), fun D hD => ?_⟩⟩
    refine dc_st (walk_list (K := K) (a := p2) (xs := ks2.map V.str)) g2.fh (fun i acc F' H' => Tells K F' acc (ks2.take i) (fun s => (m s).mergeSort (PySem.W.dataLe false eS)) .tuple) (fun _ _ _ _ _ h _ _ => h) (fun i acc F' H' _ gr _ => .inl (.inl (gr.at s2)))
      ⟨rfl, by simp⟩ (by rw [List.length_map, pk.length_eq]; omega) (fun i acc x' F' H' H'' hi hl gr fD hDc pv y => ?_) hD fun acc F' H' gr fD hDc pv => ?_
    · obtain ⟨rfl, hxi⟩ := y
      rw [List.getElem?_map] at hxi
      obtain ⟨b, hb, rfl⟩ := Option.map_eq_some_iff.mp hxi
      have bm : b ∈ ks := pk.mem_iff.mp (List.mem_of_getElem? hb)
      obtain ⟨v, v1, v2⟩ := tl2.va b bm
      obtain ⟨la, xs, rfl, hsl, hxl⟩ := dp_seq (v2.ex gr.ff) (eseq _)
      refine ⟨F', Gr.refl gr.fh, turnD1 rfl fun Yes h => ⟨_, rfl, ?_⟩⟩
      refine ⟨_, rfl, _, rfl, a, .ref la, rfl, .inl ⟨kvs, Sum.inr b, .inl (gr.at (g2.at ha)), rfl, v1.symm⟩, ?_⟩
      refine ⟨Str, eS, m b, la, xs, F', rfl, gr.fh, hsl.imp (sees_l gr.fh) (sees_t gr.fh), hxl, alikeS _, sortableS _, fun b _ => eS_depth b, fun ys p3 hy hp3 => ?_⟩
      have h3 := (Gr.refl (B := []) gr.fh).newM (o := .lst ys) hp3
      refine .mk ⟨p3, ys, rfl, .inl ⟨.inl (.inl upd_same), fun l hl' => ?_⟩⟩
      have h4 := h3.new (o := .tup ys) hl'
      exact h (Sum.inr b) _ _ _ h4 (tells_put (pv.ex h4.ff) nd2 hb (.tup (.inl (.inl upd_same)) (hy.ex h4.ff)))
    rw [List.length_map, List.take_length] at pv
    have g3 := g2.trans gr
    have hxD : D ≠ x := fun e => by rw [e, g2.at hx] at hD; cases hD
    have hD0 : H D = none := g2.dm _ hD
    have fx3 := g3.none' fx (by rw [hx]; exact fun z => nomatch z)
    clear gr g2 s2 hD
    generalize em : (fun s => (m s).mergeSort (PySem.W.dataLe false eS)) = m2 at pv
    have pm : ∀ k, (m2 k).Perm (m k) := fun k => em ▸ List.mergeSort_perm _ _
    -- kept
    refine ⟨_, rfl, x, C, dx, [], rfl, g3.at hx, TW_.cl, TW_.nM, by decide, ?_⟩
    have g4 := ((g3.mono (B' := [x]) (fun b hb => absurd hb (by simp))).mut (o := .ins C dx (putF "own_marks" (.ref D) [])) fx3 (.inl (List.mem_singleton.mpr rfl))).done hD0 fD (by rw [upd_ne hxD]; exact hDc)
    have c4 : upd H' x (.ins C dx (putF "own_marks" (.ref D) [])) x = some (.ins C dx (putF "own_marks" (.ref D) [])) := upd_same
    have d4 : upd H' x (.ins C dx (putF "own_marks" (.ref D) [])) D = some (.dK acc) := by rw [upd_ne hxD]; exact hDc
    have e4 := Ex.new (o := HO.dK acc) fD
    have pv4 := pv.ex e4
    have f4 : upd F' D (.dK acc) D = some (.dK acc) := upd_same
    have fx4 : upd F' D (.dK acc) x = none := by rw [upd_ne (Ne.symm hxD)]; exact fx3
    generalize upd F' D (.dK acc) = F5 at g4 pv4 f4 fx4
    generalize upd H' x (.ins C dx (putF "own_marks" (.ref D) [])) = H6 at g4 c4 d4 ⊢
    clear g3 pv e4 fx3 fD hDc
    -- sounds
    refine ⟨_, rfl, x, C, dx, _, _, rfl, c4, TW_.cl, TW_.nM, rfl, ?_⟩
    refine .mk ⟨D, acc, rfl, .inl d4, fun p4 hp4 => ?_⟩
    rw [tells_keys pv4]
    refine ⟨_, rfl, x, C, dx, _, rfl, by rw [upd_ne (ne_of_none c4 hp4)]; exact c4, TW_.cl, TW_.nS, by show 1 < 1000; decide, ?_⟩
    have g5 := (g4.new (o := .tup (ks2.map V.str)) hp4).mut (o := .ins C dx (putF "sounds" (.ref p4) (putF "own_marks" (.ref D) []))) (p := x) (by rw [upd_ne (ne_of_none c4 hp4)]; exact fx4) (.inl (List.mem_singleton.mpr rfl))
    have c5 : upd (upd H6 p4 (.tup (ks2.map V.str))) x (.ins C dx (putF "sounds" (.ref p4) (putF "own_marks" (.ref D) []))) x = some (.ins C dx (putF "sounds" (.ref p4) (putF "own_marks" (.ref D) []))) := upd_same
    have d5 : upd (upd H6 p4 (.tup (ks2.map V.str))) x (.ins C dx (putF "sounds" (.ref p4) (putF "own_marks" (.ref D) []))) D = some (.dK acc) := by rw [upd_ne hxD, upd_ne (ne_of_none d4 hp4)]; exact d4
    have e5 := Ex.new (o := HO.tup (ks2.map V.str)) (g4.fh.dm hp4)
    have pv5 := pv4.ex e5
    have f5 := e5 _ _ f4
    have fx5 : upd F5 p4 (.tup (ks2.map V.str)) x = none := by rw [upd_ne (ne_of_none c4 hp4)]; exact fx4
    generalize upd F5 p4 (.tup (ks2.map V.str)) = F6 at g5 pv5 f5 fx5
    generalize upd (upd H6 p4 (.tup (ks2.map V.str))) x (.ins C dx (putF "sounds" (.ref p4) (putF "own_marks" (.ref D) []))) = H7 at g5 c5 d5 ⊢
    clear g4 c4 d4 e5 pv4 f4 fx4
    -- every
    refine ⟨D, _, d5, True.intro, fun od2 => ?_⟩
    have xD : x ≠ D := Ne.symm hxD
    have c6 : upd H7 D (.frz od2 (.dK acc)) x = some (.ins C dx (putF "sounds" (.ref p4) (putF "own_marks" (.ref D) []))) := by rw [upd_ne xD]; exact c5
    have d6 : upd H7 D (.frz od2 (.dK acc)) D = some (.frz od2 (.dK acc)) := upd_same
    refine ⟨_, rfl, x, C, dx, _, _, rfl, c6, TW_.cl, TW_.nM, rfl, ?_⟩
    refine ⟨D, od2, rfl, .inl ⟨acc, d6, fun E hE => ?_⟩⟩
    have lk5 := tells_len pv5
    have sl := sees_lock (od := od2) g5.fh f5
    have zk2 : ks2.length ≤ 100 := by rw [pk.length_eq]; exact zk
    refine loop_it walk_keys (fun i H' => ∃ F' l, Gr [] F6 (upd H7 D (.frz od2 (.dK acc))) F' H' ∧ F' E = none ∧ H' E = some (.lst (l.map V.str)) ∧ l.length ≤ 6 * i ∧ ∀ z : Str, z ∈ l ↔ z ≠ "" ∧ ∃ k ∈ ks2.take i, z ∈ m2 k)
      ⟨F6, [], (Gr.refl sl).newM hE, sl.dm hE, upd_same, Nat.zero_le _, by simp⟩ (fun i H' _ ⟨F', l, g, _⟩ => g.at d6) (fun i x' H' H'' hi ⟨F', l, g, fE, hE', ll, hl⟩ y => ?_) fun H' ⟨F', l, g, fE, hE', ll, hl⟩ => ?_
    · obtain ⟨rfl, k, v, e1, rfl⟩ := y
      have hi' : i < ks2.length := by rw [← lk5]; exact hi
      have hb : ks2[i]? = some ks2[i] := List.getElem?_eq_getElem hi'
      generalize ks2[i] = b at hb
      obtain rfl := tells_at pv5 e1 hb
      have bm : b ∈ ks := pk.mem_iff.mp (List.mem_of_getElem? hb)
      obtain ⟨v', v1, v2⟩ := pv5.va b (List.mem_of_getElem? hb)
      have tk : ks2.take (i + 1) = ks2.take i ++ [b] := by rw [List.take_add_one, hb]; rfl
      obtain ⟨m1, m6, mz, mn⟩ := okm b bm
      have lb : (m2 b).length ≤ 6 := by rw [(pm b).length_eq]; exact m6
      refine ⟨rfl, yesI ?_⟩
      refine ⟨_, rfl, x, C, dx, _, _, rfl, g.at c6, TW_.cl, TW_.nM, rfl, _, rfl, D, v', rfl, .inl ⟨acc, Sum.inr b, .inr ⟨od2, g.at d6⟩, rfl, v1.symm⟩, ?_⟩
      refine seq_walk (v2.ex g.ff) (.inr rfl) g.fh fun J xs G w1 hG hxs hlen => ?_
      rw [hxs.length] at w1
      refine loop_it w1 (fun j H' => ∃ F'' l', Gr [E] F' H'' F'' H' ∧ F'' E = none ∧ H' E = some (.lst (l'.map V.str)) ∧ l'.length ≤ 6 * i + j ∧ ∀ z : Str, z ∈ l' ↔ z ≠ "" ∧ ((∃ k ∈ ks2.take i, z ∈ m2 k) ∨ z ∈ (m2 b).take j))
        ⟨F', l, Gr.refl g.fh, fE, hE', ll, fun z => by rw [hl z]; simp⟩ (fun j H' _ ⟨F'', l', g', _⟩ => hG H' (fun a o e => g'.fh a o (g'.ff a o e))) (fun j x' H' H'' hj ⟨F'', l', g', fE', hE'', ll', hl'⟩ y => ?_) fun H' ⟨F'', l', g', fE', hE'', ll', hl'⟩ => ?_
      · obtain ⟨rfl, hxi⟩ := y
        obtain ⟨d, h1, h2⟩ := hxs.get hxi
        rw [List.getElem?_map] at h1
        obtain ⟨z, hz, rfl⟩ := Option.map_eq_some_iff.mp h1
        cases h2
        rw [List.length_map] at hj
        have tz : (m2 b).take (j + 1) = (m2 b).take j ++ [z] := by rw [List.take_add_one, hz]; rfl
        refine ⟨rfl, ?_⟩
        refine ⟨_, rfl, rfl, _, rfl, ?_⟩
        have kE := (Gr.refl (B := [E]) g'.fh).mut (o := .lst ((l' ++ [z]).map V.str)) fE' (.inl (List.mem_singleton.mpr rfl))
        by_cases e : z = ""
        · refine iteNo (by rw [e]; decide) ⟨F'', l', g', fE', hE'', by omega, fun u => ?_⟩
          rw [hl' u, tz]
          constructor
          · rintro ⟨u1, u2⟩
            exact ⟨u1, u2.imp id fun q => by simp [q]⟩
          · rintro ⟨u1, u2⟩
            refine ⟨u1, u2.imp id fun q => ?_⟩
            rw [List.mem_append, List.mem_singleton] at q
            exact q.resolve_right fun q => u1 (q.trans e)
        · refine iteYes (by rw [Bool.not_eq_true', decide_eq_false_iff_not]; exact fun q => e (V.str.inj q)) ⟨_, rfl, _, hE'', by rw [sizeLine_eq, List.length_map]; omega, ?_⟩
          rw [show l'.map V.str ++ [V.str z] = (l' ++ [z]).map V.str by rw [List.map_append]; rfl]
          refine ⟨F'', l' ++ [z], g'.trans kE (fun b hb => .inl hb), fE', upd_same, by simp; omega, fun u => ?_⟩
          rw [List.mem_append, List.mem_singleton, hl' u, tz, List.mem_append, List.mem_singleton]
          constructor
          · rintro (⟨u1, u2⟩ | rfl)
            · exact ⟨u1, u2.imp id .inl⟩
            · exact ⟨e, .inr (.inr rfl)⟩
          · rintro ⟨u1, u2 | u2 | u2⟩
            · exact .inl ⟨u1, .inl u2⟩
            · exact .inl ⟨u1, .inr u2⟩
            · exact .inr u2
      · refine ⟨F'', l', g.trans g' (fun b hb => .inr (by rw [List.mem_singleton.mp hb]; exact hE)), fE', hE'', ?_, fun z => ?_⟩
        · rw [List.length_map] at ll'
          omega
        · rw [hl' z, List.length_map, List.take_length, tk]
          simp [or_and_right, exists_or]
    · rw [lk5, List.take_length] at hl
      have hED : D ≠ E := ne_of_none d6 hE
      refine ⟨g.at d6, ?_⟩
      have gF := Gr.unlock f5 d5 (g.done hE fE hE')
      have e7 := gF.ff
      have gG := g5.trans gF
      have c7 := gF.at c5
      have E7 : upd H' D (.dK acc) E = some (.lst (l.map V.str)) := by rw [upd_ne (Ne.symm hED)]; exact hE'
      have d7 : upd H' D (.dK acc) D = some (.dK acc) := upd_same
      have fx7 := gF.none' fx5 (by rw [c5]; exact fun z => nomatch z)
      have f7 := e7 _ _ f5
      generalize upd F' E (.lst (l.map V.str)) = F8 at gG e7 fx7 f7
      generalize upd H' D (.dK acc) = H8 at gG c7 E7 d7 ⊢
      clear gF g hE' fE
      refine ⟨_, rfl, E, l.map Sum.inr, rfl, .inl (by rw [keys_str]; exact .inl (.inl E7)), by rw [List.length_map]; omega, fun q1 n hq1 hn hex => ⟨q1, l, n, rfl, upd_same, fun ns p5 srt nd mem len hp5 => ?_⟩⟩
      refine .mk ⟨p5, _, rfl, .inl ⟨.inl (.inl upd_same), fun p6 hp6 => ?_⟩⟩
      have g8 := ((gG.newM (o := SKO w q1 (l.map Sum.inr) n) hq1).newM (o := .lst (ns.map V.str)) hp5).new (o := .tup (ns.map V.str)) hp6
      have n1 := ne_of_none c7 hq1
      have c71 : upd H8 q1 (SKO w q1 (l.map Sum.inr) n) x = some _ := (upd_ne n1).trans c7
      have n2 := ne_of_none c71 hp5
      have c72 : upd (upd H8 q1 (SKO w q1 (l.map Sum.inr) n)) p5 (.lst (ns.map V.str)) x = some _ := (upd_ne n2).trans c71
      have n3 := ne_of_none c72 hp6
      have c73 : upd (upd (upd H8 q1 (SKO w q1 (l.map Sum.inr) n)) p5 (.lst (ns.map V.str))) p6 (.tup (ns.map V.str)) x = some _ := (upd_ne n3).trans c72
      refine ⟨_, rfl, x, C, dx, _, rfl, c73, TW_.cl, TW_.nA, by show 2 < 1000; decide, ?_⟩
      have fx8 : upd F8 p6 (.tup (ns.map V.str)) x = none := by rw [upd_ne n3]; exact fx7
      have g9 := g8.mut (o := .ins C dx (waF (.ref D) (.ref p4) (.ref p6))) fx8 (.inl (List.mem_singleton.mpr rfl))
      have e8 : Ex F6 (upd (upd F8 p6 (.tup (ns.map V.str))) x (.ins C dx (waF (.ref D) (.ref p4) (.ref p6)))) := (e7.trans (Ex.new ((gG.newM (o := SKO w q1 (l.map Sum.inr) n) hq1).newM (o := .lst (ns.map V.str)) hp5 |>.fh.dm hp6))).trans (Ex.new fx8)
      have xp : p6 ≠ x := Ne.symm n3
      refine q ⟨ks2, m2, ns⟩ _ _ pk (fun k _ => pm k) g9 fx8 ?_ ?_
      · rw [upd_same, Option.getD_some]
        refine ⟨⟨dx, D, .ref p4, .ref p6, acc, upd_same, e8 _ _ f5, pv5.ex e8, .tup (.inl (.inl ?_)) (dps_str.mpr rfl)⟩, nd2, fun z => ?_, nd, fun k _ => (em ▸ sle_sorted (m k) : ((fun s => m2 s) k).Pairwise _), srt⟩
        · rw [upd_ne xp, upd_same]
        · show z ∈ ns ↔ _
          rw [mem z, hl z]
      · rw [upd_same, Option.getD_some]
        intro dx' D' vs' va' kvs' e1 e2
        rw [upd_same] at e1
        have e : D = D' := waF_inj (HO.ins.inj (Option.some.inj e1)).2.2
        subst e
        obtain rfl : kvs' = acc := HO.dK.inj (Option.some.inj (e2.symm.trans (e8 _ _ f5)))
        have m1 := ne_of_none d7 hq1
        have d71 : upd H8 q1 (SKO w q1 (l.map Sum.inr) n) D = some _ := (upd_ne m1).trans d7
        have m2' := ne_of_none d71 hp5
        have d72 : upd (upd H8 q1 (SKO w q1 (l.map Sum.inr) n)) p5 (.lst (ns.map V.str)) D = some _ := (upd_ne m2').trans d71
        have m3 := ne_of_none d72 hp6
        rw [upd_ne hxD, upd_ne m3]
        exact d72
end
end TW
set_option Elab.async false
set_option linter.all false
set_option maxRecDepth 100000
set_option maxHeartbeats 8000000
/-! need_speech, need_wall, Hearing -/
namespace TW
open PySem PySem.Spec PyProof.Rows L2 RZ StX
open Evl (Ex)
/-- a class whose instances isinstance tells -/
structure InsC (K : PySem.W.Frag) (C : Addr) : Prop where
  cl : Cls K C
  ha : PySem.W.findIn K (.ref C) "__class__" = some (some (.builtin "object.__class__"))
  hn : PySem.W.specialIn K (.builtin "object.__class__") "__get__" = some (some (.builtin "getset_descriptor.__get__"))
  ht : PySem.W.takesIn K (.builtin "object.__class__") = some true
  hm : PySem.W.mroIn K C (.type "object") = some true
theorem isi_own {K : PySem.W.Frag} {H : Hp} {x C dx : Addr} {fs : List (Str × V)} {Q : VK} (I : InsC K C) (h : H x = some (.ins C dx fs)) (q : Q (.bl true) H) : rIsiD K [.ref x, .ref C] H Q :=
  .mk ⟨.ref x, .ref C, .ref C, .ref C, true, rfl, .own C, .base (.ins h I.cl I.ha I.hn I.ht I.hm), by simp [PySem.W.kitOne], q⟩
theorem nodup_le {α : Type} [DecidableEq α] : ∀ {l m : List α}, l.Nodup → (∀ k ∈ l, k ∈ m) → l.length ≤ m.length
  | [], m, _, _ => Nat.zero_le _
  | x :: l, m, nd, h => by
    obtain ⟨n1, n2⟩ := List.nodup_cons.mp nd
    have hx := h x List.mem_cons_self
    have := nodup_le (l := l) (m := m.erase x) n2 fun k hk => (List.mem_erase_of_ne (fun e => n1 (by rw [← e]; exact hk))).mpr (h k (List.mem_cons_of_mem _ hk))
    rw [List.length_erase_of_mem hx] at this
    have := List.length_pos_of_mem hx
    simp only [List.length_cons]
    omega
theorem SpD.Ok.zlen {s : SpD} (h : s.Ok) : s.Z.length ≤ s.A.length := by
  have := nodup_le (m := s.A.map fun a => a.2.1) h.nd fun k hk => by
    obtain ⟨a, h1, h2⟩ := (h.so k).mp hk
    exact List.mem_map.mpr ⟨a, h1, h2⟩
  rwa [List.length_map] at this
/-- a key map: what it holds at the int p (nothing: []) -/
def Holds (K : PySem.W.Frag) (F : Hp) (kvs : List (Key × V)) (p : Int) (l : List Int) : Prop := (valV kvs (Sum.inl p) = none ∧ l = []) ∨ ∃ v, valV kvs (Sum.inl p) = some v ∧ Dp K F v (.tuple (l.map .int))
theorem Holds.ex {K : PySem.W.Frag} {F F' : Hp} {kvs : List (Key × V)} {p : Int} {l : List Int} (h : Holds K F kvs p l) (e : Ex F F') : Holds K F' kvs p l := h.imp id fun ⟨v, h1, h2⟩ => ⟨v, h1, h2.ex e⟩
/-- the Hearing of the arrows: tr the triples (place, mark, later) that are told so far -/
structure HInv (K : PySem.W.Frag) (U : Addr) (P : List Int) (all : List Str) (ad : List Addr) (tr : List (Int × Str × Int)) (F H : Hp) : Prop where
  u : ∃ kU, H U = some (.dK kU) ∧ kU.length ≤ 4000 + tr.length ∧ ∀ p ∈ P, ∃ (v : V) (l : List Int), valV kU (Sum.inl p) = some v ∧ Dp K F v (.tuple (l.map .int)) ∧ l.length ≤ tr.length ∧ ∀ q, q ∈ l ↔ (p, ("" : Str), q) ∈ tr
  d : ∀ (j : Nat) (k : Str) (a : Addr), all[j]? = some k → ad[j]? = some a → ∃ kD, H a = some (.dK kD) ∧ kD.length ≤ tr.length ∧ ∀ p, ∃ l : List Int, Holds K F kD p l ∧ l.length ≤ tr.length ∧ ∀ q, q ∈ l ↔ (p, k, q) ∈ tr
abbrev heF (vs vw vu vl : V) : List (Str × V) := putF "led" vl (putF "unheard" vu (putF "wall" vw (putF "speech" vs [])))
/-- the triples of arrows heard through a wall -/
def trip (m : Str → List Str) (A : List Arr) : List (Int × Str × Int) := A.flatMap fun a => (m a.2.1).map fun k => (a.1, k, a.2.2)
theorem mem_trip {m : Str → List Str} {A : List Arr} {p q : Int} {k : Str} : (p, k, q) ∈ trip m A ↔ ∃ z, (p, z, q) ∈ A ∧ k ∈ m z := by
  unfold trip
  rw [List.mem_flatMap]
  constructor
  · rintro ⟨⟨p', z, q'⟩, h1, h2⟩
    obtain ⟨k', h3, h4⟩ := List.mem_map.mp h2
    cases h4
    exact ⟨z, h1, h3⟩
  · rintro ⟨z, h1, h2⟩
    exact ⟨(p, z, q), h1, List.mem_map.mpr ⟨k, h2, rfl⟩⟩
section
variable {K : PySem.W.Frag} {U : Addr} {P : List Int} {all : List Str} {ad : List Addr} {tr : List (Int × Str × Int)} {F F' H H' : Hp}
theorem HInv.ex (h : HInv K U P all ad tr F H) (e : Ex F F') : HInv K U P all ad tr F' H := by
  obtain ⟨⟨kU, h1, h2, h3⟩, hd⟩ := h
  refine ⟨⟨kU, h1, h2, fun p hp => ?_⟩, fun j k a hk ha => ?_⟩
  · obtain ⟨v, l, q1, q2, q3, q4⟩ := h3 p hp
    exact ⟨v, l, q1, q2.ex e, q3, q4⟩
  · obtain ⟨kD, q1, q2, q3⟩ := hd j k a hk ha
    refine ⟨kD, q1, q2, fun p => ?_⟩
    obtain ⟨l, r1, r2, r3⟩ := q3 p
    exact ⟨l, r1.ex e, r2, r3⟩
theorem HInv.heap (h : HInv K U P all ad tr F H) (e : ∀ a o, a ∈ U :: ad → H a = some o → H' a = some o) : HInv K U P all ad tr F H' := by
  obtain ⟨⟨kU, h1, h2, h3⟩, hd⟩ := h
  refine ⟨⟨kU, e _ _ List.mem_cons_self h1, h2, h3⟩, fun j k a hk ha => ?_⟩
  obtain ⟨kD, q1, q2, q3⟩ := hd j k a hk ha
  exact ⟨kD, e _ _ (List.mem_cons_of_mem _ (List.mem_of_getElem? ha)) q1, q2, q3⟩
theorem HInv.putU (h : HInv K U P all ad tr F H) {kU : List (Key × V)} (hU : H U = some (.dK kU)) {p q : Int} {t : V} {l : List Int} (hl : l.length ≤ tr.length) (hm : ∀ q', q' ∈ l ↔ (p, ("" : Str), q') ∈ tr)
    (ht : Dp K F t (.tuple ((l ++ [q]).map .int))) (nU : U ∉ ad) (na : ("" : Str) ∉ all) : HInv K U P all ad (tr ++ [(p, ("" : Str), q)]) F (upd H U (.dK (putK kU (Sum.inl p) t))) := by
  obtain ⟨⟨kU', h1, h2, h3⟩, hd⟩ := h
  rw [hU] at h1
  cases h1
  refine ⟨⟨_, upd_same, ?_, fun p' hp => ?_⟩, fun j k a hk ha => ?_⟩
  · have := length_putK kU (Sum.inl p) t
    rw [List.length_append, List.length_singleton]
    omega
  · rw [valV_put]
    by_cases e : p' = p
    · subst e
      exact ⟨t, l ++ [q], by rw [if_pos rfl], ht, by simp; omega, fun q' => by simp [hm q']⟩
    · obtain ⟨v, l', q1, q2, q3, q4⟩ := h3 p' hp
      exact ⟨v, l', by rw [if_neg fun z => e (Sum.inl.inj z)]; exact q1, q2, by simp; omega, fun q' => by simp [q4 q', e]⟩
  · obtain ⟨kD, q1, q2, q3⟩ := hd j k a hk ha
    have kne : k ≠ "" := fun e => na (e ▸ List.mem_of_getElem? hk)
    have hne : a ≠ U := fun e => nU (by rw [← e]; exact List.mem_of_getElem? ha)
    refine ⟨kD, by rw [upd_ne hne]; exact q1, by simp; omega, fun p' => ?_⟩
    obtain ⟨l', r1, r2, r3⟩ := q3 p'
    exact ⟨l', r1, by simp; omega, fun q' => by simp [r3 q', kne]⟩
theorem HInv.putD (h : HInv K U P all ad tr F H) {j : Nat} {k : Str} {a : Addr} (hk : all[j]? = some k) (ha : ad[j]? = some a) {kD : List (Key × V)} (hD : H a = some (.dK kD)) {p q : Int} {t : V} {l : List Int} (hl : l.length ≤ tr.length)
    (hm : ∀ q', q' ∈ l ↔ (p, k, q') ∈ tr) (ht : Dp K F t (.tuple ((l ++ [q]).map .int))) (nU : U ∉ ad) (nd : ad.Nodup) (an : all.Nodup) (k0 : k ≠ "") : HInv K U P all ad (tr ++ [(p, k, q)]) F (upd H a (.dK (putK kD (Sum.inl p) t))) := by
  obtain ⟨⟨kU, h1, h2, h3⟩, hd⟩ := h
  have hne : U ≠ a := fun e => nU (by rw [e]; exact List.mem_of_getElem? ha)
  refine ⟨⟨kU, by rw [upd_ne hne]; exact h1, by simp; omega, fun p' hp => ?_⟩, fun j' k' a' hk' ha' => ?_⟩
  · obtain ⟨v, l', q1, q2, q3, q4⟩ := h3 p' hp
    exact ⟨v, l', q1, q2, by simp; omega, fun q' => by simp [q4 q', Ne.symm k0]⟩
  · obtain ⟨kD', q1, q2, q3⟩ := hd j' k' a' hk' ha'
    by_cases e : a' = a
    · subst e
      rw [hD] at q1
      cases q1
      have ej : j' = j := (List.getElem?_inj (List.getElem?_eq_some_iff.mp ha').1 nd).mp (ha'.trans ha.symm)
      subst ej
      rw [hk] at hk'
      cases hk'
      refine ⟨_, upd_same, ?_, fun p' => ?_⟩
      · have := length_putK kD (Sum.inl p) t
        simp
        omega
      · by_cases ep : p' = p
        · subst ep
          exact ⟨l ++ [q], .inr ⟨t, by rw [valV_put, if_pos rfl], ht⟩, by simp; omega, fun q' => by simp [hm q']⟩
        · obtain ⟨l', r1, r2, r3⟩ := q3 p'
          refine ⟨l', ?_, by simp; omega, fun q' => by simp [r3 q', ep]⟩
          unfold Holds
          rw [valV_put, if_neg fun z => ep (Sum.inl.inj z)]
          exact r1
    · have kk : k' ≠ k := fun z => by
        subst z
        have ej : j' = j := (List.getElem?_inj (List.getElem?_eq_some_iff.mp hk').1 an).mp (hk'.trans hk.symm)
        subst ej
        rw [ha] at ha'
        cases ha'
        exact e rfl
      refine ⟨kD', by rw [upd_ne e]; exact q1, by simp; omega, fun p' => ?_⟩
      obtain ⟨l', r1, r2, r3⟩ := q3 p'
      exact ⟨l', r1, by simp; omega, fun q' => by simp [r3 q', kk]⟩
end
theorem trip_snoc {m : Str → List Str} {A : List Arr} {a : Arr} : trip m (A ++ [a]) = trip m A ++ (m a.2.1).map fun k => (a.1, k, a.2.2) := by
  unfold trip
  rw [List.flatMap_append]
  simp
theorem trip_len {m : Str → List Str} : ∀ {A : List Arr}, (∀ a ∈ A, (m a.2.1).length ≤ 6) → (trip m A).length ≤ 6 * A.length
  | [], _ => by simp [trip]
  | a :: A, h => by
    have h1 := trip_len (A := A) fun b hb => h b (List.mem_cons_of_mem _ hb)
    have h2 := h a List.mem_cons_self
    unfold trip at h1 ⊢
    rw [List.flatMap_cons, List.length_append, List.length_map, List.length_cons]
    omega
theorem dps3 {K : PySem.W.Frag} {F : Hp} {xs : List V} {p r : Int} {z : Str} (h : DpAll K F xs [.int p, .str z, .int r]) : xs = [.int p, .str z, .int r] := by
  cases h with
  | cons h1 t => cases t with
    | cons h2 t => cases t with
      | cons h3 t =>
        cases t
        rw [dp_int.mp h1, dp_str.mp h2, dp_int.mp h3]
theorem Gr.freeze {B0 : List Addr} {F H H1 : Hp} : ∀ (B : List Addr) {F1 : Hp}, Gr B0 F H F1 H1 → (∀ b ∈ B, H b = none ∧ (F1 b = none ∨ F1 b = H1 b) ∧ H1 b ≠ none) → ∃ F2, Gr B0 F H F2 H1 ∧ Ex F1 F2 ∧ (∀ b ∈ B, F2 b = H1 b) ∧ ∀ a, a ∉ B → F2 a = F1 a
  | [], F1, g, _ => ⟨F1, g, Ex.refl _, fun b h => by simp at h, fun _ _ => rfl⟩
  | b :: r, F1, g, h => by
    obtain ⟨h1, h2, h3⟩ := h b List.mem_cons_self
    obtain ⟨o, ho⟩ := Option.ne_none_iff_exists'.mp h3
    rcases h2 with h2 | h2
    · obtain ⟨F2, q1, q2, q3, q4⟩ := Gr.freeze r (g.done h1 h2 ho) fun c hc => by
        obtain ⟨k1, k2, k3⟩ := h c (List.mem_cons_of_mem _ hc)
        refine ⟨k1, ?_, k3⟩
        by_cases e : c = b
        · subst e
          exact .inr (by rw [upd_same, ho])
        · rw [upd_ne e]
          exact k2
      refine ⟨F2, q1, (Ex.new h2).trans q2, fun c hc => ?_, fun a ha => ?_⟩
      · by_cases e : c ∈ r
        · exact q3 c e
        · obtain rfl := (List.mem_cons.mp hc).resolve_right e
          rw [q4 c e, upd_same, ho]
      · rw [List.mem_cons, not_or] at ha
        rw [q4 a ha.2, upd_ne ha.1]
    · obtain ⟨F2, q1, q2, q3, q4⟩ := Gr.freeze r g fun c hc => h c (List.mem_cons_of_mem _ hc)
      refine ⟨F2, q1, q2, fun c hc => ?_, fun a ha => q4 a fun z => ha (List.mem_cons_of_mem _ z)⟩
      by_cases e : c ∈ r
      · exact q3 c e
      · obtain rfl := (List.mem_cons.mp hc).resolve_right e
        rw [q4 c e, h2]
structure HeAt (K : PySem.W.Frag) (CH CS CW : Addr) (F : Hp) (x : Addr) (s : SpD) (wd : WaD) : Prop where
  ex : ∃ (dx sx wx U L : Addr) (ad : List Addr) (kL : List (Key × V)), F x = some (.ins CH dx (heF (.ref sx) (.ref wx) (.ref U) (.ref L))) ∧ SpAt K CS F sx s ∧ WaAt K CW F wx wd ∧ F L = some (.dK kL) ∧ kL.map (·.1) = wd.all.map Sum.inr ∧ (∀ (j : Nat) (k : Str) (a : Addr), wd.all[j]? = some k → ad[j]? = some a → valV kL (Sum.inr k) = some (.ref a)) ∧
    ad.length = wd.all.length ∧ ∃ tr, HInv K U s.P wd.all ad tr F F ∧ ∀ t, t ∈ tr ↔ t ∈ trip wd.m s.A
structure HeC (K : PySem.W.Frag) (C : Addr) : Prop where
  cl : Cls K C
  nS : NoAttr K C "speech"
  nW : NoAttr K C "wall"
  nU : NoAttr K C "unheard"
  nL : NoAttr K C "led"
def spNeedSp (K : PySem.W.Frag) (CS : Addr) : Sp := fun vs H Q _ => ∃ (F : Hp) (x : Addr) (y : V) (s : SpD), vs = [.ref x, y] ∧ Sees F H ∧ SpAt K CS F x s ∧ ∀ F' H', Gr [] F H F' H' → Q .non H'
def spNeedWa (K : PySem.W.Frag) (CS CW : Addr) : Sp := fun vs H Q _ => ∃ (F : Hp) (x y : Addr) (s : SpD) (wd : WaD), vs = [.ref y, .ref x] ∧ Sees F H ∧ SpAt K CS F x s ∧ WaAt K CW F y wd ∧ s.A.length ≤ 2000 ∧ (∀ z ∈ s.Z, z ∈ wd.ks) ∧ ∀ F' H', Gr [] F H F' H' → Q .non H'
section
variable {P : Program} {w : World} {K : PySem.W.Frag} {mg : Str → Option Value} {base : Heap}
def spHeI (K : PySem.W.Frag) (CH CS CW : Addr) : Sp := fun vs H Q _ => ∃ (F : Hp) (x dx sx wx : Addr) (s : SpD) (wd : WaD), vs = [.ref x, .ref sx, .ref wx] ∧ H x = some (.ins CH dx []) ∧ F x = none ∧ Sees F H ∧ SpAt K CS F sx s ∧ WaAt K CW F wx wd ∧
  s.A.length ≤ 2000 ∧ s.P.length ≤ 4000 ∧ wd.all.length ≤ 4000 ∧ (∀ k ∈ wd.ks, (wd.m k).length ≤ 6) ∧ (∀ z ∈ s.Z, z ∈ wd.ks) ∧
  ∀ (F' H' : Hp), Gr [x] F H F' H' → F' x = none → HeAt K CH CS CW (upd F' x ((H' x).getD (.own 0))) x s wd → Q .non H'
end
end TW
set_option Elab.async false
set_option linter.all false
set_option maxRecDepth 100000
set_option maxHeartbeats 8000000
/-! what a neighbour knows -/
namespace TW
open PySem PySem.Spec PyProof.Rows L2 RZ StX
open Evl (Ex)
/-- where unheard arrows lead to from S -/
inductive Reach (R : List (Int × Str × Int)) (S : List Int) : Int → Prop
  | base {k : Int} (h : k ∈ S) : Reach R S k
  | step {p q : Int} (h : Reach R S p) (e : (p, ("" : Str), q) ∈ R) : Reach R S q
theorem SpD.Ok.asc' {s : SpD} (h : s.Ok) : s.P.Nodup := h.asc.imp (fun h e => Int.ne_of_lt h e)
theorem SpD.Ok.to {s : SpD} (h : s.Ok) {m : Str → List Str} {p q : Int} {k : Str} (e : (p, k, q) ∈ trip m s.A) : q ∈ s.P := by
  obtain ⟨z, h1, _⟩ := mem_trip.mp e
  exact (h.pl q).mpr (.inr (.inr ⟨_, h1, rfl⟩))
/-- what a Hearing is for its readers -/
theorem HeAt.un {K : PySem.W.Frag} {CH CS CW : Addr} {F : Hp} {x : Addr} {s : SpD} {wd : WaD} (h : HeAt K CH CS CW F x s wd) : ∃ dx sx wx U L kU kL, F x = some (.ins CH dx (heF (.ref sx) (.ref wx) (.ref U) (.ref L))) ∧ SpAt K CS F sx s ∧ WaAt K CW F wx wd ∧ F U = some (.dK kU) ∧ F L = some (.dK kL) ∧
    (∀ p ∈ s.P, ∃ (v : V) (l : List Int), valV kU (Sum.inl p) = some v ∧ Dp K F v (.tuple (l.map .int)) ∧ ∀ q, q ∈ l ↔ (p, ("" : Str), q) ∈ trip wd.m s.A) ∧
    ∀ k ∈ wd.all, ∃ a kD, valV kL (Sum.inr k) = some (.ref a) ∧ F a = some (.dK kD) ∧ ∀ p, ∃ l : List Int, Holds K F kD p l ∧ ∀ q, q ∈ l ↔ (p, k, q) ∈ trip wd.m s.A := by
  obtain ⟨dx, sx, wx, U, L, ad, kL, h1, h2, h3, h4, h5, h6, h7, tr, ⟨⟨kU, u1, u2, u3⟩, hd⟩, ht⟩ := h
  refine ⟨dx, sx, wx, U, L, kU, kL, h1, h2, h3, u1, h4, fun p hp => ?_, fun k hk => ?_⟩
  · obtain ⟨v, l, q1, q2, q3, q4⟩ := u3 p hp
    exact ⟨v, l, q1, q2, fun q => (q4 q).trans (ht _)⟩
  · obtain ⟨j, hj⟩ := List.mem_iff_getElem?.mp hk
    have hj' : j < ad.length := by rw [h7]; exact (List.getElem?_eq_some_iff.mp hj).1
    obtain ⟨kD, q1, q2, q3⟩ := hd j k _ hj (List.getElem?_eq_getElem hj')
    refine ⟨_, kD, h6 j k _ hj (List.getElem?_eq_getElem hj'), q1, fun p => ?_⟩
    obtain ⟨l, r1, r2, r3⟩ := q3 p
    exact ⟨l, r1, fun q => (r3 q).trans (ht _)⟩
theorem HeAt.ex' {K : PySem.W.Frag} {CH CS CW : Addr} {F F' : Hp} {x : Addr} {s : SpD} {wd : WaD} (h : HeAt K CH CS CW F x s wd) (e : Ex F F') : HeAt K CH CS CW F' x s wd := by
  obtain ⟨dx, sx, wx, U, L, ad, kL, h1, h2, h3, h4, h5, h6, h7, tr, hi, ht⟩ := h
  exact ⟨dx, sx, wx, U, L, ad, kL, e _ _ h1, h2.ex' e, h3.ex' e, e _ _ h4, h5, h6, h7, tr, (hi.ex e).heap fun a o _ q => e _ _ q, ht⟩
/-- the walk of closed: ks found, ln in line -/
structure CInv (R : List (Int × Str × Int)) (P S : List Int) (D L : Addr) (ks ln : List Int) (H : Hp) : Prop where
  hd : ∃ kvs, H D = some (.dK kvs) ∧ kvs.map (·.1) = ks.map Sum.inl
  hl : H L = some (.lst (ln.map V.int))
  nd : ks.Nodup
  kp : ∀ z ∈ ks, z ∈ P ∧ Reach R S z
  sk : ∀ z ∈ S, z ∈ ks
  lk : ∀ z ∈ ln, z ∈ ks
theorem kv_none {kvs : List (Key × V)} {ks : List Int} {b : Int} (h : kvs.map (·.1) = ks.map Sum.inl) (n : b ∉ ks) : valV kvs (Sum.inl b) = none := by
  cases e : valV kvs (Sum.inl b) with
  | none => rfl
  | some v =>
    have z := valV_in e
    rw [h, List.mem_map] at z
    obtain ⟨y, y1, y2⟩ := z
    cases y2
    exact absurd y1 n
theorem kv_some {kvs : List (Key × V)} {ks : List Int} {b : Int} (h : kvs.map (·.1) = ks.map Sum.inl) (n : b ∈ ks) : (valV kvs (Sum.inl b)).isSome = true := by
  cases e : valV kvs (Sum.inl b) with
  | some v => rfl
  | none =>
    refine absurd ?_ (valV_not e)
    rw [h]
    exact List.mem_map.mpr ⟨b, n, rfl⟩
theorem kv_put {kvs : List (Key × V)} {ks : List Int} {b : Int} {v : V} (h : kvs.map (·.1) = ks.map Sum.inl) (n : b ∉ ks) : (putK kvs (Sum.inl b) v).map (·.1) = (ks ++ [b]).map Sum.inl := by
  rw [putK_new _ (kv_none h n), List.map_append, h, List.map_append]
  rfl
theorem kv_len {kvs : List (Key × V)} {ks : List Int} (h : kvs.map (·.1) = ks.map Sum.inl) : kvs.length = ks.length := by
  have z := congrArg List.length h
  rwa [List.length_map, List.length_map] at z
theorem kv_old {kvs : List (Key × V)} {ks : List Int} {b : Int} {v : V} (h : kvs.map (·.1) = ks.map Sum.inl) (n : b ∈ ks) : (putK kvs (Sum.inl b) v).map (·.1) = ks.map Sum.inl := by
  have e := valV_any (Sum.inl b : Key) kvs
  rw [kv_some h n] at e
  unfold putK
  rw [if_pos e, List.map_map, ← h]
  refine List.map_congr_left fun p _ => ?_
  show (if p.1 = Sum.inl b then (p.1, v) else p).1 = p.1
  split <;> rfl
def spBehind (K : PySem.W.Frag) (CH CS CW : Addr) : Sp := fun vs H Q _ => ∃ (F : Hp) (x : Addr) (v : V) (d : PyData) (S : List Int) (k : Str) (s : SpD) (wd : WaD), vs = [.ref x, v, .str k] ∧ Sees F H ∧ HeAt K CH CS CW F x s wd ∧ Dp K F v d ∧ isSeq d (S.map .int) ∧ k ∈ wd.all ∧ s.P.length < 64 ∧
  ∀ (r : V) (ns T : List Int) (F' H' : Hp), Gr [] F H F' H' → Dp K F' r (.tuple (ns.map .int)) → ns.Pairwise (· < ·) → (∀ z, z ∈ T ↔ ∃ p ∈ S, (p, k, z) ∈ trip wd.m s.A) → (∀ q, q ∈ ns ↔ Reach (trip wd.m s.A) T q) → Q r H'
def spBegun (K : PySem.W.Frag) (CH CS CW : Addr) : Sp := fun vs H Q _ => ∃ (F : Hp) (x : Addr) (s : SpD) (wd : WaD), vs = [.ref x] ∧ Sees F H ∧ HeAt K CH CS CW F x s wd ∧ s.S.Nodup ∧ s.P.length < 64 ∧
  ∀ (r : V) (ns : List Int) (F' H' : Hp), Gr [] F H F' H' → Dp K F' r (.tuple (ns.map .int)) → ns.Pairwise (· < ·) → (∀ q, q ∈ ns ↔ Reach (trip wd.m s.A) s.S q) → Q r H'
def spClosed (K : PySem.W.Frag) (CH CS CW : Addr) : Sp := fun vs H Q _ => ∃ (F : Hp) (x : Addr) (v : V) (d : PyData) (S : List Int) (s : SpD) (wd : WaD), vs = [.ref x, v] ∧ Sees F H ∧ HeAt K CH CS CW F x s wd ∧ Dp K F v d ∧ isSeq d (S.map .int) ∧ (∀ z ∈ S, z ∈ s.P) ∧ S.Nodup ∧ s.P.length < 64 ∧
  ∀ (r : V) (ns : List Int) (F' H' : Hp), Gr [] F H F' H' → Dp K F' r (.tuple (ns.map .int)) → ns.Pairwise (· < ·) → (∀ k, k ∈ ns ↔ Reach (trip wd.m s.A) S k) → Q r H'
section
variable {P : Program} {w : World} {K : PySem.W.Frag} {mg : Str → Option Value} {base : Heap}
end
end TW
set_option Elab.async false
set_option linter.all false
set_option maxRecDepth 100000
set_option maxHeartbeats 4000000
/-! enumerate(v), v a list or a tuple -/
namespace TW
open PySem PySem.Spec PyProof.Rows L2 RZ StX
open Evl (Ex)
theorem meets_enum1 {v : Value} {o : Obj} {H : Heap → Prop} (B : Begins v o H) :
    Meets (Builtin.«enumerate.__new__» ⟨[.type "enumerate", v], []⟩) (fun _ R s => H s.heap ∧
      R (.ok (.ret (.ref (s.heap.push o).objs.size))) { s with heap := (s.heap.push o).push { cls := .type "enumerate", data := .fields #[.none, .bool false, .ref s.heap.objs.size, rawInt 0, .none, .none] } }) :=
  .of_wp fun prog w A R s h => by
    obtain ⟨hp, g, d, tk, os⟩ := s; obtain ⟨h1, h⟩ := h
    have hsub := sub_enumerate
    have q1 : ∀ {A' : Around} {E : Value → Shared → Prop} {Q : Value → Shared → Prop}, Q (.ref hp.objs.size) ⟨hp.push o, g, d, tk, os⟩ → wpAny (model prog w) A' (pyIter v) Q E ⟨hp, g, d, tk, os⟩ :=
      fun q => B.iter prog w _ _ ⟨hp, g, d, tk, os⟩ _ h1 q
    wp_walk using q1
    refine wpAny_stack_any fun st => wpAny_pure ?_
    split
    · rename_i c _ _ _ _ _
      cases (c == Value.type "enumerate")
      · wp_walk using q1
        exact ⟨_, rfl, h⟩
      · wp_walk using q1
        exact ⟨_, rfl, h⟩
    · wp_walk using q1
      exact ⟨_, rfl, h⟩
section
variable {prog : Program} {w : World} {A : Around} {E : Value → Shared → Prop} {s : Shared}
theorem call_enum1 {v : Value} {o : Obj} {H : Heap → Prop} {Q : Value → Shared → Prop} (B : Begins v o H) (h1 : H s.heap)
    (h : ∀ h', IsEnum h' (s.heap.objs.size + 1) s.heap.objs.size 0 .none → h'.get? s.heap.objs.size = some o → h'.objs.size = s.heap.objs.size + 2 →
      (∀ b o, s.heap.get? b = some o → h'.get? b = some o) → Q (.ref (s.heap.objs.size + 1)) { s with heap := h' }) :
    wpAny (model prog w) A (call (.type "enumerate") [v]) Q E s := by
  refine callType_new F.called_enumerate (by decide) (F.typeCall_enumerate_1 _) (F.newCall_enumerate_1 _) (fun obj => F.args_object_init_2 obj _) F.entry_enumerate_new
    (meets_enum1 B) ⟨h1, ?_⟩
  have hz : (s.heap.push o).objs.size = s.heap.objs.size + 1 := Heap.size_push ..
  show _ ∧ _
  rw [hz]
  have he : IsEnum ((s.heap.push o).push { cls := .type "enumerate", data := .fields #[.none, .bool false, .ref s.heap.objs.size, rawInt 0, .none, .none] }) (s.heap.objs.size + 1) s.heap.objs.size 0 .none := by
    have := Heap.get?_push_size (s.heap.push o) (o := { cls := .type "enumerate", data := .fields #[.none, .bool false, .ref s.heap.objs.size, rawInt 0, .none, .none] }) rfl
    rw [hz] at this; exact this
  refine ⟨⟨_, he, rfl⟩, h _ he (Heap.get?_push_of_some _ (Heap.get?_push_size _ B.free)) (by rw [Heap.size_push, hz]) fun b o x => Heap.get?_push_of_some _ (Heap.get?_push_of_some _ x)⟩
end
/-- the tuple at a, each item in a new pair -/
def IteT (K : PySem.W.Frag) (a : Addr) : It :=
  ⟨fun i H => ∃ (xs : List V) (x : V), SqT K H a xs ∧ xs[i]? = some x, fun i H v H' => ∃ T x, v = .ref T ∧ H T = none ∧ H' = upd H T (.tup [.int (i : Nat), x]) ∧ ∀ xs, SqT K H a xs → xs[i]? = some x, fun i H => ∃ xs : List V, SqT K H a xs ∧ xs.length ≤ i⟩
theorem turn_enumT {P : Program} {w : World} {K : PySem.W.Frag} {elts : List Expr} {kk : Nat} {tpos : Pos} (a e it : Addr) :
    Turn P w K (.Tuple elts kk tpos) (IteT K a) [e, it] e (fun i h => (∃ old, IsEnum h e it ((i : Nat) : Int) old) ∧ h.IsTupleIter it a i ∧ e ≠ it) where
  mem := by simp
  obj := fun i h st b hb => by
    obtain ⟨⟨old, he⟩, ⟨o, ho, hc, hd⟩, _⟩ := st
    have e' : b = e ∨ b = it := by simpa using hb
    rcases e' with z | z
    · rw [z]; exact ⟨_, he, fun v q => nomatch q⟩
    · rw [z]; exact ⟨o, ho, fun v q => by rw [hd] at q; cases q⟩
  keep := fun i h h' st k => let ⟨⟨old, he⟩, hi, hne⟩ := st; ⟨⟨old, k e (by simp) _ he⟩, hi.at fun o q => k it (by simp) o q, hne⟩
  item := by
    intro X hP hw hK hc i pins s σ H E I hf st hg
    subst hP hw hK
    obtain ⟨⟨old, he⟩, hit, hne⟩ := st
    obtain ⟨xs, x, hq, hx⟩ := hg
    obtain ⟨its, rv, p, hz⟩ := I.tuple hq
    obtain ⟨u, hu, ru⟩ := rv.get hx
    have p' : s.heap.IsTuple a its.toArray := p
    have hel : e < s.heap.objs.size := Heap.lt_size he
    have hil : it < s.heap.objs.size := by obtain ⟨_, q, _⟩ := hit; exact Heap.lt_size q
    have ea : e ≠ a := fun z => by
      obtain ⟨o, ho, hc', _⟩ := p'
      rw [← z, he] at ho
      cases ho
      exact absurd hc' (by simp)
    have ai : a ≠ it := fun z => by
      obtain ⟨o, ho, hc', _⟩ := p'
      obtain ⟨o2, ho2, hc2, _⟩ := hit
      rw [← z, ho] at ho2
      cases ho2
      rw [hc'] at hc2
      exact absurd hc2 (by simp)
    refine wpAny_pyNext_enum_itemC (Draws.tuple (show X.A.in1.handled = none from I.ok.hd hc) it a ai its.toArray) he ⟨hit, p'⟩ (by have := (List.getElem?_eq_some_iff.mp hu).1; simpa using this) hne (by simp [hne, ea]) fun x' h' tk hx' ho hst' hT hsz hk => ?_
    have hit' := hst'.1
    have : x' = u := by
      have z : its[i]? = some x' := by simpa using hx'
      rw [hu] at z
      exact (Option.some.inj z).symm
    subst this
    refine ⟨_, rfl, wpAny_letOwnedTupleGo_enum (s := { s with heap := h', toks := tk + 1 }) ho fun h'' he' sb => ?_⟩
    have hT2 : h''.get? s.heap.objs.size = some { cls := .type "tuple", data := .seq #[.int i tk, x'] } := (sb.2 _ (Nat.ne_of_gt hel)).trans hT
    have new : ObjOk X.prog X.w (upd H s.heap.objs.size (.tup [.int (i : Nat), x])) h'' s.heap.objs.size (.tup [.int (i : Nat), x]) :=
      ⟨by show 2 ≤ sizeLine; decide, [.int i tk, x'], .cons ⟨_, rfl⟩ (.cons ru .nil), ⟨_, hT2, rfl, _, rfl⟩⟩
    have I1 : Inv X pins σ (upd H s.heap.objs.size (.tup [.int (i : Nat), x])) { s with heap := h'', toks := tk + 1 } :=
      I.turnedNew (ch := [e, it]) (fun b ob hb q => (sb.2 b (fun z => hb (by simp [z]))).trans (hk b ob (fun z => hb (by simp [z])) (fun z => hb (by simp [z])) q)) hf (Nat.le_refl _) new
    refine ⟨.ref s.heap.objs.size, _, I1, rfl, ⟨_, x, rfl, I.hok.fresh (Nat.le_refl _), rfl, fun ys hy => by rw [I.tuple_inj hy hq]; exact hx⟩, ⟨⟨x', ?_⟩, hit'.at fun o q => (sb.2 it (Ne.symm hne)).trans q, hne⟩, fun b hb => ?_⟩
    · have e1 : ((i + 1 : Nat) : Int) = (i : Int) + 1 := by omega
      rw [e1]; exact he'
    · have hb' : b < s.heap.objs.size := by
        have e' : b = e ∨ b = it := by simpa using hb
        rcases e' with z | z
        · rw [z]; exact hel
        · rw [z]; exact hil
      rw [upd_ne (Nat.ne_of_lt hb')]
      exact (hf b hb).1
  done := by
    intro X hP hw hK hc i pins s σ H E I hf st hg
    subst hP hw hK
    obtain ⟨⟨old, he⟩, hit, hne⟩ := st
    obtain ⟨xs, hq, hx⟩ := hg
    obtain ⟨its, rv, p, hz⟩ := I.tuple hq
    have p' : s.heap.IsTuple a its.toArray := p
    obtain ⟨f0, f1, f2, f3, f4, f5⟩ := hf it (by simp)
    have hl := rv.length
    have ai : a ≠ it := fun z => by
      obtain ⟨o, ho, hc', _⟩ := p'
      obtain ⟨o2, ho2, hc2, _⟩ := hit
      rw [← z, ho] at ho2
      cases ho2
      rw [hc'] at hc2
      exact absurd hc2 (by simp)
    unfold pyNext
    refine wpAny_bind (wpAny_attempt (wpAny_callSpecial?_slot (name := Str.ofString "__next__") (show s.TypeIs (.ref e) "enumerate" from ⟨_, he, rfl⟩) F.slot_enumerate_next
      (wpAny_call_entry F.slot_enumerate_next (show s.TypeIs (.ref e) "enumerate" from ⟨_, he, rfl⟩) F.entry_enumerate_next ?_ (F.args_enumerate_next_1 _))))
    show wpAny _ _ (field (.ref e) 2 >>= _) _ _ _
    refine wpAny_bind (wpAny_field he rfl (x := .ref it) rfl ?_)
    refine wpAny_bind (wpAny_nextOf_tuple_end (show X.A.in1.handled = none from I.ok.hd hc) hit p' (by simp; omega) fun h' x he' hx' => ?_)
    obtain ⟨o, ho, hc'⟩ := hx'
    refine wpAny_bind (wpAny_isInstance (T := "StopIteration") (b := true) ⟨o, ho, hc'⟩ isSubtype_stop ?_)
    exact wpAny_pure ⟨rfl, I.turned (t' := s.toks) (fun b o hb q => he' b o hb q) f0 f1 f3 f4 f5⟩
  self := fun A i s Q E st h => let ⟨⟨_, he⟩, _⟩ := st; wpAny_pyIter_enum he h
structure rEnD (K : PySem.W.Frag) (vs : List V) (H : Hp) (R : It → Hp → Prop) : Prop where
  r : ∃ a xs, vs = [.ref a] ∧ ((SqL K H a xs ∧ R (Ite K a) H) ∨ (SqT K H a xs ∧ R (IteT K a) H))
def iEnumD (K : PySem.W.Frag) (ta : TA) : TI := fun σ H R => ta σ H fun vs H1 => rEnD K vs H1 R
theorem pi_enumD {X : Cx} {e : Expr} {ta : TA} {p pos tpos : Pos} {elts : List Expr} {kk : Nat} (K : PySem.W.Frag) (hm : X.mg "enumerate" = none) (ha : PA X [e] ta) (hK : X.K = K := by rfl) (hg : Gl X "enumerate" := by rfl) (hs : starEach [e] X.env = [(false, eval e X.env)] := by rfl) :
    PI X (.Tuple elts kk tpos) (.Call (.Name "enumerate" p) [e] [] pos) (iEnumD K ta) := by
  subst hK
  refine ⟨fun pins s σ H R I h => ?_⟩
  refine Call_ (ld_blt I hg hm boot_enumerate (PyProof.Rows.callWith_type1 (thn (ha.run pos pins s σ H _ I h) fun us s1 ⟨vs, H1, I1, r1, q1⟩ => ?_) hs rfl))
  obtain ⟨a, xs, ex, hq⟩ := q1.r
  subst ex
  cases r1 with
  | cons r rr =>
    cases rr
    cases r
    have fpk : ∀ {h' : Heap} (I2 : Inv X pins σ H1 { s1 with heap := h' }), ∀ b ∈ ([s1.heap.objs.size + 1, s1.heap.objs.size] : List Addr), s1.heap.objs.size ≤ b := fun {h'} I2 b hb => by
      have e' : b = s1.heap.objs.size + 1 ∨ b = s1.heap.objs.size := by simpa using hb
      rcases e' with z | z
      · rw [z]; exact Nat.le_add_right _ _
      · rw [z]; exact Nat.le_refl _
    rcases hq with ⟨hq, q⟩ | ⟨hq, q⟩
    · obtain ⟨its, rv, p', hz⟩ := I1.list hq
      refine call_enumerate_list p'.isList fun h' he hit hsz hk => wpAny_pyIter_enum he ?_
      have I2 : Inv X pins σ H1 { s1 with heap := h' } := I1.kept (t' := s1.toks) hk
      exact ⟨s1.heap.objs.size + 1, [s1.heap.objs.size + 1, s1.heap.objs.size], _, _, H1, rfl, I2, turn_enum a (s1.heap.objs.size + 1) s1.heap.objs.size, ⟨⟨.none, he⟩, hit, Nat.succ_ne_self _⟩, fun b hb => I1.fpOk (fpk I2 b hb) (I1.hok.fresh (fpk I2 b hb)), q⟩
    · obtain ⟨its, rv, p', hz⟩ := I1.tuple hq
      refine call_enum1 (begins_tuple a its.toArray) (show s1.heap.IsTuple a its.toArray from p') fun h' he hit hsz hk => wpAny_pyIter_enum he ?_
      have I2 : Inv X pins σ H1 { s1 with heap := h' } := I1.kept (t' := s1.toks) hk
      exact ⟨s1.heap.objs.size + 1, [s1.heap.objs.size + 1, s1.heap.objs.size], _, _, H1, rfl, I2, turn_enumT a (s1.heap.objs.size + 1) s1.heap.objs.size, ⟨⟨.none, he⟩, ⟨_, hit, rfl, rfl⟩, Nat.succ_ne_self _⟩, fun b hb => I1.fpOk (fpk I2 b hb) (I1.hok.fresh (fpk I2 b hb)), q⟩
theorem walk_enumT {K : PySem.W.Frag} {a : Addr} {xs : List V} : Walk (IteT K a) xs.length (fun H => SqT K H a xs) (YPair (fun i => some (.int (i : Nat))) (fun i => xs[i]?)) := by
  refine ⟨fun i _ hi q => ⟨xs, xs[i], q, by simp [hi]⟩, fun _ q => ⟨xs, q, Nat.le_refl _⟩, fun i H v H' _ q y => ?_⟩
  obtain ⟨T, x, h1, h2, h3, h4⟩ := y
  exact ⟨T, .int (i : Nat), x, h1, h2, h3, rfl, h4 xs q⟩
theorem enum_walk {K : PySem.W.Frag} {F H : Hp} {v : V} {d : PyData} {ds : List PyData} {R : It → Hp → Prop} (hd : Dp K F v d) (hq : isSeq d ds) (s : Sees F H)
    (k : ∀ J (xs : List V) G, Walk J xs.length G (YPair (fun i => some (.int (i : Nat))) (fun i => xs[i]?)) → (∀ H', Sees F H' → G H') → DpAll K F xs ds → xs.length = ds.length → R J H) : rEnD K [v] H R := by
  obtain ⟨a, xs, rfl, h, q⟩ := dp_seq hd hq
  rcases h with h | h
  · exact .mk ⟨a, xs, rfl, .inl ⟨sees_l s h, k _ xs _ walk_enum (fun H' z => sees_l z h) q q.length⟩⟩
  · exact .mk ⟨a, xs, rfl, .inr ⟨sees_t s h, k _ xs _ walk_enumT (fun H' z => sees_t z h) q q.length⟩⟩
end TW
set_option Elab.async false
set_option linter.all false
set_option maxRecDepth 100000
set_option maxHeartbeats 8000000
/-! what is asked from outside -/
namespace TW
open PySem PySem.Spec PyProof.Rows L2 RZ StX
open Evl (Ex)
theorem inV_str {k : Str} {l : List Str} (h : k ∈ l) : inV (.str k) (l.map V.str) = true := List.any_eq_true.mpr ⟨.str k, List.mem_map.mpr ⟨k, h, rfl⟩, by simp [eqV]⟩
theorem flat_strs (l : List Str) : (l.map V.str).all flatV = true := by
  rw [List.all_map]
  exact List.all_eq_true.mpr fun _ _ => rfl
/-- as Reach, from a set -/
inductive ReachP (R : List (Int × Str × Int)) (S : Int → Prop) : Int → Prop
  | base {k : Int} (h : S k) : ReachP R S k
  | step {p q : Int} (h : ReachP R S p) (e : (p, ("" : Str), q) ∈ R) : ReachP R S q
theorem reachP {R : List (Int × Str × Int)} {T : List Int} {S : Int → Prop} (h : ∀ z, z ∈ T ↔ S z) (k : Int) : Reach R T k ↔ ReachP R S k :=
  ⟨fun r => by
    induction r with
    | base q => exact .base ((h _).mp q)
    | step _ e ih => exact .step ih e, fun r => by
    induction r with
    | base q => exact .base ((h _).mpr q)
    | step _ e ih => exact .step ih e⟩
theorem ReachP.congr {R : List (Int × Str × Int)} {S S' : Int → Prop} (h : ∀ z, S z ↔ S' z) (k : Int) : ReachP R S k ↔ ReachP R S' k :=
  ⟨fun r => by
    induction r with
    | base q => exact .base ((h _).mp q)
    | step _ e ih => exact .step ih e, fun r => by
    induction r with
    | base q => exact .base ((h _).mpr q)
    | step _ e ih => exact .step ih e⟩
/-- behind the mark k -/
def Beh (R : List (Int × Str × Int)) (k : Str) (S : Int → Prop) : Int → Prop := ReachP R fun z => ∃ p, S p ∧ (p, k, z) ∈ R
theorem Beh.congr {R : List (Int × Str × Int)} {k : Str} {S S' : Int → Prop} (h : ∀ z, S z ↔ S' z) (q : Int) : Beh R k S q ↔ Beh R k S' q :=
  ReachP.congr (fun z => exists_congr fun p => and_congr (h p) Iff.rfl) q
/-- behind a row -/
def Goes (R : List (Int × Str × Int)) (S : Int → Prop) (row : List Str) : Int → Prop := row.foldl (fun A k => Beh R k A) S
theorem Goes.snoc {R : List (Int × Str × Int)} {S : Int → Prop} {row : List Str} {k : Str} : Goes R S (row ++ [k]) = Beh R k (Goes R S row) := by
  unfold Goes
  rw [List.foldl_append]
  rfl
structure Bnd (s : SpD) (wd : WaD) : Prop where
  A : s.A.length ≤ 2000
  P : s.P.length < 64
  L : wd.all.length ≤ 4000
  m : ∀ k ∈ wd.ks, (wd.m k).length ≤ 6
  Z : ∀ z ∈ s.Z, z ∈ wd.ks
def spNeedHe (K : PySem.W.Frag) (CH CS CW : Addr) : Sp := fun vs H Q _ => ∃ (F : Hp) (sx wx : Addr) (s : SpD) (wd : WaD), vs = [.ref sx, .ref wx] ∧ Sees F H ∧ SpAt K CS F sx s ∧ WaAt K CW F wx wd ∧ Bnd s wd ∧
  ∀ (x : Addr) (F' H' : Hp), Gr [] F H F' H' → HeAt K CH CS CW F' x s wd → Q (.ref x) H'
def spNeedPl (K : PySem.W.Frag) (CH CS CW : Addr) : Sp := fun vs H Q _ => ∃ (F : Hp) (x : Addr) (v : V) (d : PyData) (S : List Int) (s : SpD) (wd : WaD), vs = [.ref x, v] ∧ Sees F H ∧ HeAt K CH CS CW F x s wd ∧ Dp K F v d ∧ isSeq d (S.map .int) ∧ isLot d = true ∧ S.length ≤ 5000 ∧ (∀ z ∈ S, z ∈ s.P) ∧ s.P.length < 64 ∧
  ∀ (r : V) (F' H' : Hp), Gr [] F H F' H' → Dp K F' r (.tuple (S.map .int)) → Q r H'
def spNeedRow (K : PySem.W.Frag) (CH CS CW : Addr) : Sp := fun vs H Q _ => ∃ (F : Hp) (x : Addr) (v : V) (d : PyData) (row : List Str) (s : SpD) (wd : WaD), vs = [.ref x, v] ∧ Sees F H ∧ HeAt K CH CS CW F x s wd ∧ Dp K F v d ∧ isSeq d (row.map .str) ∧ (∀ k ∈ row, k ∈ wd.all) ∧
  ∀ (r : V) (F' H' : Hp), Gr [] F H F' H' → Dp K F' r (.tuple (row.map .str)) → Q r H'
def spSilent (K : PySem.W.Frag) (CS CW : Addr) : Sp := fun vs H Q _ => ∃ (F : Hp) (sx wx : Addr) (v : V) (d : PyData) (S : List Int) (s : SpD) (wd : WaD), vs = [.ref sx, .ref wx, v] ∧ Sees F H ∧ SpAt K CS F sx s ∧ WaAt K CW F wx wd ∧ Bnd s wd ∧
  Dp K F v d ∧ isSeq d (S.map .int) ∧ isLot d = true ∧ S.Nodup ∧ S.length ≤ 5000 ∧ (∀ z ∈ S, z ∈ s.P) ∧
  ∀ (r : V) (ns : List Int) (F' H' : Hp), Gr [] F H F' H' → Dp K F' r (.tuple (ns.map .int)) → ns.Pairwise (· < ·) → (∀ q, q ∈ ns ↔ ReachP (trip wd.m s.A) (· ∈ S) q) → Q r H'
def spAfter (K : PySem.W.Frag) (CS CW : Addr) : Sp := fun vs H Q _ => ∃ (F : Hp) (sx wx : Addr) (v : V) (k : Str) (d : PyData) (S : List Int) (s : SpD) (wd : WaD), vs = [.ref sx, .ref wx, v, .str k] ∧ Sees F H ∧ SpAt K CS F sx s ∧ WaAt K CW F wx wd ∧ Bnd s wd ∧
  Dp K F v d ∧ isSeq d (S.map .int) ∧ isLot d = true ∧ S.length ≤ 5000 ∧ (∀ z ∈ S, z ∈ s.P) ∧ k ∈ wd.all ∧
  ∀ (r : V) (ns : List Int) (F' H' : Hp), Gr [] F H F' H' → Dp K F' r (.tuple (ns.map .int)) → ns.Pairwise (· < ·) → (∀ q, q ∈ ns ↔ Beh (trip wd.m s.A) k (· ∈ S) q) → Q r H'
def spKnown (K : PySem.W.Frag) (CS CW : Addr) : Sp := fun vs H Q _ => ∃ (F : Hp) (sx wx : Addr) (v : V) (d : PyData) (row : List Str) (s : SpD) (wd : WaD), vs = [.ref sx, .ref wx, v] ∧ Sees F H ∧ SpAt K CS F sx s ∧ WaAt K CW F wx wd ∧ Bnd s wd ∧ s.S.Nodup ∧ 
  Dp K F v d ∧ isSeq d (row.map .str) ∧ (∀ k ∈ row, k ∈ wd.all) ∧
  ∀ (r : V) (ns : List Int) (F' H' : Hp), Gr [] F H F' H' → Dp K F' r (.tuple (ns.map .int)) → ns.Pairwise (· < ·) → (∀ q, q ∈ ns ↔ Goes (trip wd.m s.A) (ReachP (trip wd.m s.A) (· ∈ s.S)) row q) → Q r H'
section
variable {P : Program} {w : World} {K : PySem.W.Frag} {mg : Str → Option Value} {base : Heap}
end
end TW
set_option Elab.async false
set_option linter.all false
set_option maxRecDepth 100000
set_option maxHeartbeats 8000000
/-! what draws -/
namespace TW
open PySem PySem.Spec PyProof.Rows L2 RZ StX
open Evl (Ex)
/-- at p stands what draws; t cells begun -/
structure PenAt (K : PySem.W.Frag) (F H : Hp) (p : Addr) (t : Int) : Prop where
  f : F p = none
  h : ∃ (c : Addr) (r : Int) (cells : List Int), H p = some (.lst [.ref c, .int t, .int r]) ∧ Dp K F (.ref c) (.list (cells.map .int)) ∧ cells.length ≤ 63 ∧ 0 ≤ r ∧ 0 ≤ t
def spPen (K : PySem.W.Frag) : Sp := fun vs H Q _ => ∃ (F : Hp) (v : V) (ns : List Int), vs = [v] ∧ Sees F H ∧ Dp K F v (.list (ns.map .int)) ∧ ∀ p F' H', H p = none → Gr [] F H F' H' → PenAt K F' H' p 0 → Q (.ref p) H'
def spDraw (K : PySem.W.Frag) : Sp := fun vs H Q _ => ∃ (F : Hp) (p : Addr) (many t : Int), vs = [.ref p, .int many] ∧ Sees F H ∧ PenAt K F H p t ∧ t ≤ 1000000 ∧ 0 < many ∧ many < 1073741824 ∧
  ∀ (d t' : Int) F' H', 0 ≤ d → d < many → t ≤ t' → t' ≤ t + 1 → Gr [p] F H F' H' → PenAt K F' H' p t' → Q (.int d) H'
theorem rI0_eq {g : Int → Int → V} {i j : Int} {v : V} {H : Hp} {Q : VK} (e : g i j = v) (q : Q v H) : rI0 g (.int i) (.int j) H Q := ⟨i, j, rfl, rfl, by rw [e]; exact q⟩
theorem rI_eq {C : Int → Int → Prop} {g : Int → Int → V} {i j : Int} {v : V} {H : Hp} {Q : VK} (c : C i j) (e : g i j = v) (q : Q v H) : rI C g (.int i) (.int j) H Q := ⟨i, j, rfl, rfl, c, by rw [e]; exact q⟩
section
variable {P : Program} {w : World} {K : PySem.W.Frag} {mg : Str → Option Value} {base : Heap}
theorem ok_draw {f : Addr} {fd : FuncData} (F : Fun K "_law_draw" "_law_draw" s__law_draw f fd) (T : Txt mg) : FnOk P w K mg base CX0 1 f fd ["pen", "many"] (spDraw K) := by
  refine F.ok sc__law_draw (fun vs H Q E h => ?_) (fun cdv A outer s H vs Q E hr h => ?_)
  · obtain ⟨F0, p, many, t, rfl, _⟩ := h
    rfl
  · obtain ⟨F0, p, many, t, rfl, fs, ⟨fp, c, r, cells, hp, hc, lc, r0, t0⟩, t6, m0, m1, q⟩ := h
    have hu := hu_of hr
    have hu64 := hr.units
    refine ⟨_, (pss_cons (ps_if (pt_cmpR op_gt (pe_ix (ix_LT K) (pv 0) pe_int (fun _ _ => rfl)) pe_int (nomark _))
        (pss_cons (zs (i := 2) sc__law_draw.nd (pe_op op_mod (pe_callTy call_int1 (by rfl) T.int bt_int (pa_cons (pe_ix (ix_LT K) (pv 0) pe_int (fun _ _ => rfl)) pa_nil)) (pv 1)))
        (pss_cons (ps_asg (pe_op op_fdiv (pe_callTy call_int1 (by rfl) T.int bt_int (pa_cons (pe_ix (ix_LT K) (pv 0) pe_int (fun _ _ => rfl)) pa_nil)) (pv 1)) (pg_sub (pv 0) pe_int set_list))
        (pss_one (ps_ret (pv 2)))))
        pss_nil)
      (pss_cons (zs (i := 3) sc__law_draw.nd (pe_ix (ix_LT K) (pv 0) pe_int (fun _ _ => rfl)))
      (pss_cons (ps_asg (pe_op op_add (pv 3) pe_int) (pg_sub (pv 0) pe_int set_list))
      (pss_cons (zs (i := 4) sc__law_draw.nd (pe_op op_add (pe_op op_mul pe_int (pv 3)) pe_int))
      (pss_cons (ps_if (pt_cmpR (op_neDD K hu64) (pe_ix (ix_LT K) (pv 0) pe_int (fun _ _ => rfl)) (pe_lst pa_nil) (nomark _))
        (pss_one (zs (i := 4) sc__law_draw.nd (pe_ix (ix_LT K) (pe_ix (ix_LT K) (pv 0) pe_int (fun _ _ => rfl)) (pe_op op_mod (pe_callTy call_int1 (by rfl) T.int bt_int (pa_cons (pv 3) pa_nil)) (pe_callB (cr_len K) (by rfl) T.len bt_len (pa_cons (pe_ix (ix_LT K) (pv 0) pe_int (fun _ _ => rfl)) pa_nil))) (fun _ _ => rfl))))
        pss_nil)
      (pss_cons (ps_if (PW.pt (pw_and (pt_cmpR op_lt (pv 3) (pe_callB (cr_len K) (by rfl) T.len bt_len (pa_cons (pe_ix (ix_LT K) (pv 0) pe_int (fun _ _ => rfl)) pa_nil)) (nomark _)) (pw_and1 (pt_cmpR op_ge (pe_callB call_abs (by rfl) T.abs bt_abs (pa_cons (pv 4) pa_nil)) (pe_op op_pow pe_int pe_int) (nomark _)))))
        (pss_cons (zs (i := 5) sc__law_draw.nd (pe_op op_add (pe_op op_mul pe_int (pe_op op_sub (pe_callB call_abs (by rfl) T.abs bt_abs (pa_cons (pv 4) pa_nil)) (pe_op op_pow pe_int pe_int))) (pe_callTy call_int1 (by rfl) T.int bt_int (pa_cons (pe_cmpR op_lt (pv 4) pe_int (nomark _)) pa_nil))))
        (pss_cons (ps_asg (pe_op op_fdiv (pe_callTy call_int1 (by rfl) T.int bt_int (pa_cons (pv 5) pa_nil)) (pv 1)) (pg_sub (pv 0) pe_int set_list))
        (pss_one (ps_ret (pe_op op_mod (pe_callTy call_int1 (by rfl) T.int bt_int (pa_cons (pv 5) pa_nil)) (pv 1))))))
        pss_nil)
      (pss_cons (zs (i := 6) sc__law_draw.nd (pe_op op_mod (pe_callTy call_int1 (by rfl) T.int bt_int (pa_cons (pe_op op_pow (pe_op op_add (pe_op op_add (pe_op op_mod (pe_callTy call_int1 (by rfl) T.int bt_int (pa_cons (pv 4) pa_nil)) pe_int) (pe_op op_mul pe_int (pv 3))) pe_int) pe_int) pa_nil)) pe_int))
      (pss_cons (zs (i := 6) sc__law_draw.nd (pe_op op_mod (pe_callTy call_int1 (by rfl) T.int bt_int (pa_cons (pe_op op_pow (pe_op op_add (pe_op op_add (pe_op op_mul (pv 6) (pe_op op_add (pe_op op_mul pe_int (pv 3)) pe_int)) (pe_op op_mul (pe_op op_mul pe_int (pv 3)) (pv 3))) pe_int) pe_int) pa_nil)) pe_int))
      (pss_one (ps_ret (pe_op op_mod (pe_callTy call_int1 (by rfl) T.int bt_int (pa_cons (pe_op op_fdiv (pv 6) pe_int) pa_nil)) (pv 1)))))))))))), ?_⟩
    refine ⟨_, rfl, .mk (.inl ⟨p, _, 2, _, rfl, rfl, .inl (.inl hp), rfl, _, _, rfl, rfl, _, rfl, ?_⟩)⟩
    have pm : p ∈ [p] := List.mem_singleton.mpr rfl
    -- how the rest is drawn from
    have draw : ∀ (rest t' : Int) (F' H' : Hp), 0 ≤ rest → 0 ≤ t' → t ≤ t' → t' ≤ t + 1 → Gr [p] F0 H F' H' → F' p = none → H' p = some (.lst [.ref c, .int t', .int (rest / many)]) → Q (.int (rest % many)) H' := fun rest t' F' H' h0 ht h1 h2 g hf hh =>
      q _ t' F' H' (Int.emod_nonneg _ (by omega)) (Int.emod_lt_of_pos _ m0) h1 h2 g ⟨hf, c, _, cells, hh, hc.ex g.ff, lc, Int.ediv_nonneg h0 (by omega), ht⟩
    by_cases hr0 : 0 < r
    · refine iteYes (decide_eq_true hr0) ?_
      refine ⟨_, rfl, .mk (.inl ⟨p, _, 2, _, rfl, rfl, .inl (.inl hp), rfl, .inl ⟨_, rfl, _, rfl, _, _, rfl, rfl, m0, ?_⟩⟩)⟩
      refine ⟨_, rfl, .mk (.inl ⟨p, _, 2, _, rfl, rfl, .inl (.inl hp), rfl, .inl ⟨_, rfl, _, rfl, _, _, rfl, rfl, ⟨m0, m1⟩, _, rfl, p, _, 2, 2, rfl, rfl, hp, rfl, ?_⟩⟩)⟩
      refine ⟨_, rfl, ?_⟩
      exact draw r t F0 _ r0 t0 (Int.le_refl _) (by omega) ((Gr.refl fs).mut fp (.inl pm)) fp upd_same
    · refine iteNo (by rw [decide_eq_true_eq]; exact hr0) ?_
      have er : r = 0 := by omega
      subst er
      -- turn
      refine ⟨_, rfl, .mk (.inl ⟨p, _, 1, _, rfl, rfl, .inl (.inl hp), rfl, ?_⟩)⟩
      refine ⟨_, rfl, _, _, rfl, rfl, _, rfl, p, _, 1, 1, rfl, rfl, hp, rfl, ?_⟩
      have g1 := (Gr.refl (B := [p]) fs).mut (o := .lst (List.set [.ref c, .int t, .int 0] 1 (.int (t + 1)))) fp (.inl pm)
      have hp1 : upd H p (.lst (List.set [.ref c, .int t, .int 0] 1 (.int (t + 1)))) p = some (.lst [.ref c, .int (t + 1), .int 0]) := upd_same
      generalize upd H p (.lst (List.set [.ref c, .int t, .int 0] 1 (.int (t + 1)))) = H1 at g1 hp1 ⊢
      have ix0 : ∀ {F' H' : Hp} {Q : VK}, H' p = some (.lst [.ref c, .int (t + 1), .int 0]) → Q (.ref c) H' → rIxD K (.ref p) (.int 0) H' Q := fun h q => .mk (.inl ⟨p, _, 0, _, rfl, rfl, .inl (.inl h), rfl, q⟩)
      -- cell
      obtain ⟨z, hz0⟩ : ∃ z, 95257 * t + 12197 = z := ⟨_, rfl⟩
      refine ⟨_, rfl, _, _, rfl, rfl, .inl ⟨by decide, by decide⟩, _, _, rfl, rfl, ?_⟩
      simp only [hz0]
      clear hz0
      refine ⟨_, rfl, .mk (.inl ⟨p, _, 0, _, rfl, rfl, .inl (.inl hp1), rfl, ?_⟩)⟩
      refine ⟨Nat.zero_le _, fun l hl => .mk ⟨.list (cells.map .int), .list [], hc.sees (fun a o e => ((g1.newM (o := .lst []) hl).fh a o e)), .lst (.inl (.inl upd_same)) .nil, ?_, rfl, _, rfl, ?_⟩⟩
      · exact PySem.W.ke_shaped_ints cells
      have g2 := g1.newM (o := .lst []) hl
      have hp2 : upd H1 l (.lst []) p = some (.lst [.ref c, .int (t + 1), .int 0]) := by rw [upd_ne (ne_of_none hp1 hl)]; exact hp1
      generalize upd H1 l (.lst []) = H2 at g2 hp2 ⊢
      have ev : PyData.eqv (.list (cells.map .int)) (.list []) = decide (cells = []) := by
        cases cells with
        | nil => simp [PyData.eqv, PyData.eqvAll]
        | cons a b => simp [PyData.eqv, PyData.eqvAll]
      rw [ev]
      have hix : ∀ {Q : VK}, Q (.ref c) H2 → rIxD K (.ref p) (.int 0) H2 Q := fun q => .mk (.inl ⟨p, _, 0, _, rfl, rfl, .inl (.inl hp2), rfl, q⟩)
      have hc2 := hc.ex g2.ff
      have two63 : ∀ x : Int, 0 ≤ x → x < 2147483649 → -(2 ^ 64) < x ∧ x < 2 ^ 64 := fun x h0 h1 => by omega
      by_cases hce : cells = []
      refine iteNo (by rw [decide_eq_true hce]; decide) ?_
      rotate_left
      refine iteYes (by rw [decide_eq_false hce]; rfl) ?_
      have lpos : 0 < cells.length := List.length_pos_iff.mpr hce
      refine ⟨_, rfl, hix ⟨_, rfl, .inl ⟨_, rfl, _, rfl, hix ?_⟩⟩⟩
      refine len_dp hc2 (.inl rfl) g2.fh ⟨_, _, rfl, rfl, by rw [List.length_map]; omega, ?_⟩
      obtain ⟨j, hj, ej⟩ : ∃ j, j < cells.length ∧ t % ((cells.map PyData.int).length : Int) = (j : Int) := by
        rw [List.length_map]
        have z1 := Int.emod_nonneg t (b := (cells.length : Int)) (by omega)
        have z2 := Int.emod_lt_of_pos t (b := (cells.length : Int)) (by omega)
        exact ⟨(t % (cells.length : Int)).toNat, by omega, by omega⟩
      refine ix_dp hc2 (.inl rfl) g2.fh (e := .int cells[j]) (by rw [ej]; exact atI_nat (by rw [List.getElem?_map, List.getElem?_eq_getElem hj]; rfl)) fun r hr => ?_
      rw [dp_int] at hr
      subst hr
      generalize cells[j] = z
      all_goals
        refine ⟨_, rfl, _, rfl, hix (len_dp hc2 (.inl rfl) g2.fh ⟨_, _, rfl, rfl, _, rfl, ?_⟩)⟩
        by_cases hg : (t < ((cells.map PyData.int).length : Int)) ∧ (10 : Int) ^ (18 : Int).toNat ≤ (if z < 0 then -z else z)
        · refine iteYes (decide_eq_true hg.1) ?_
          refine ⟨_, rfl, _, rfl, _, _, rfl, rfl, ⟨by decide, by decide, by decide⟩, _, _, rfl, rfl, _, rfl, ?_⟩
          refine iteYes (decide_eq_true hg.2) ?_
          refine ⟨_, rfl, _, rfl, _, _, rfl, rfl, ⟨by decide, by decide, by decide⟩, _, _, rfl, rfl, _, _, rfl, rfl, .inl ⟨by decide, by decide⟩, ?_⟩
          refine ⟨_, rfl, _, _, rfl, rfl, .inr ⟨_, rfl, _, _, rfl, rfl, ?_⟩⟩
          refine ⟨_, rfl, .inl ⟨_, rfl, _, rfl, _, _, rfl, rfl, ⟨m0, m1⟩, _, rfl, p, _, 2, 2, rfl, rfl, hp2, rfl, ?_⟩⟩
          refine ⟨_, rfl, .inl ⟨_, rfl, _, rfl, _, _, rfl, rfl, m0, ?_⟩⟩
          refine draw _ (t + 1) F0 _ ?_ (by omega) (by omega) (Int.le_refl _) (g2.mut fp (.inl pm)) fp upd_same
          have hg2 := hg.2
          have e18 : (10 : Int) ^ (18 : Int).toNat = 1000000000000000000 := by decide
          rw [e18] at hg2 ⊢
          split <;> omega
        · by_cases hl1 : t < ((cells.map PyData.int).length : Int)
          refine iteYes (decide_eq_true hl1) ?_
          refine ⟨_, rfl, _, rfl, _, _, rfl, rfl, ⟨by decide, by decide, by decide⟩, _, _, rfl, rfl, _, rfl, ?_⟩
          refine iteNo (by rw [decide_eq_true_eq]; exact fun h => hg ⟨hl1, h⟩) ?_
          rotate_left
          refine iteNo (by rw [decide_eq_true_eq]; exact hl1) ?_
          refine iteNo (by decide) ?_
          all_goals
            have z1 := Int.emod_nonneg z (b := 2147483549) (by decide)
            have z2 := Int.emod_lt_of_pos z (b := 2147483549) (by decide)
            refine ⟨_, rfl, .inl ⟨_, rfl, _, _, rfl, rfl, (by show (0 : Int) < 2147483549; decide), _, rfl, _, _, rfl, rfl, .inl ⟨by decide, by decide⟩, _, _, rfl, rfl, _, _, rfl, rfl, _, _, rfl, rfl, ⟨by decide, by decide, by omega⟩, .inl ⟨_, rfl, _, _, rfl, rfl, (by show (0 : Int) < 2147483587; decide), ?_⟩⟩⟩
            have m2 := Int.emod_nonneg ((z % 2147483549 + 95257 * t + 12197) ^ (5 : Int).toNat) (b := 2147483587) (by decide)
            have m3 := Int.emod_lt_of_pos ((z % 2147483549 + 95257 * t + 12197) ^ (5 : Int).toNat) (b := 2147483587) (by decide)
            obtain ⟨m, hm⟩ : ∃ m, (z % 2147483549 + 95257 * t + 12197) ^ (5 : Int).toNat % 2147483587 = m := ⟨_, rfl⟩
            rw [hm] at m2 m3
            simp only [hm]
            have b1 : 0 ≤ m * (2 * t + 211) := Int.mul_nonneg m2 (by omega)
            have b2 : m * (2 * t + 211) ≤ 2147483629 * 2000211 := Int.mul_le_mul (by omega) (by omega) (by omega) (by decide)
            have b3 : 0 ≤ 12197 * t * t := Int.mul_nonneg (by omega) t0
            have b4 : 12197 * t * t ≤ 12197000000 * 1000000 := Int.mul_le_mul (by omega) t6 t0 (by decide)
            refine ⟨_, rfl, _, rfl, _, _, rfl, rfl, .inl ⟨by decide, by decide⟩, _, _, rfl, rfl, _, _, rfl, rfl, .inl ⟨by omega, by omega⟩, _, rfl, _, _, rfl, rfl, .inl ⟨by decide, by decide⟩, _, rfl, _, _, rfl, rfl, .inr ⟨by omega, by omega⟩, _, _, rfl, rfl, _, _, rfl, rfl, _, _, rfl, rfl,
              ⟨by decide, by decide, by omega⟩, .inl ⟨_, rfl, _, _, rfl, rfl, (by show (0 : Int) < 2147483629; decide), ?_⟩⟩
            refine ⟨_, rfl, _, _, rfl, rfl, ⟨by decide, by decide⟩, .inl ⟨_, rfl, _, rfl, _, _, rfl, rfl, m0, ?_⟩⟩
            exact q _ (t + 1) F0 _ (Int.emod_nonneg _ (by omega)) (Int.emod_lt_of_pos _ m0) (by omega) (Int.le_refl _) g2 ⟨fp, c, 0, cells, hp2, hc, lc, Int.le_refl _, by omega⟩
end
end TW
set_option Elab.async false
set_option linter.all false
set_option maxRecDepth 100000
set_option maxHeartbeats 8000000
/-! what is drawn -/
namespace TW
open PySem PySem.Spec PyProof.Rows L2 RZ StX
open Evl (Ex)
/-- a turn whose test is not known ahead -/
def TurnQ (B : List Addr) (g : TG) (tt : TT) (te : TE) (vs : List Nat) (σ : L2.St) (x : V) (F H : Hp) (R : V → Hp → Hp → Prop) (R0 : Hp → Hp → Prop) : Prop :=
  ∀ (Yes : V → Hp → Prop) (No : Hp → Prop), (∀ F3 H3, Gr B F H F3 H3 → R0 F3 H3 → No H3) → (∀ y F3 H3, Gr B F H F3 H3 → R y F3 H3 → Yes y H3) →
    g x (wipe σ vs) H fun σ2 H2 => wipe σ2 vs = wipe σ vs ∧ tt σ2 H2 fun b H3 => if b = true then te σ2 H3 Yes else No H3
section
variable {K : PySem.W.Frag} {J : It} {n : Nat} {G : Hp → Prop} {Y : Nat → Hp → V → Hp → Prop} {g : TG} {tt : TT} {te : TE} {vs : List Nat} {σ : L2.St} {F H1 : Hp} {D : Addr} {Qd : Hp → Prop}
/-- a comprehension whose test is drawn, with a state of its own (Pv: turn, what is made, finished objects, heap) -/
theorem lc_stQ {B : List Addr} (w : Walk J n G Y) (sees : Sees F H1) (hB : ∀ b ∈ B, H1 b ≠ none) (Pv : Nat → List V → Hp → Hp → Prop) (hP : ∀ i acc F' H' D o, Pv i acc F' H' → H1 D = none → Pv i acc F' (upd H' D o))
    (hG : ∀ i acc F' H', i ≤ n → Gr B F H1 F' H' → Pv i acc F' H' → G H') (h0 : Pv 0 [] F H1) (hz : n ≤ 100000)
    (hs : ∀ i acc x F' H' H'', i < n → acc.length ≤ i → Gr B F H1 F' H' → Pv i acc F' H' → Y i H' x H'' → ∃ F'', Gr B F' H' F'' H'' ∧ TurnQ B g tt te vs σ x F'' H'' (fun y F3 H3 => Pv (i + 1) (acc ++ [y]) F3 H3) (fun F3 H3 => Pv (i + 1) acc F3 H3))
    (hD : H1 D = none) (q : ∀ acc F' H', Gr B F H1 F' H' → F' D = none → H' D = some (.lst acc) → Pv n acc F' H' → Qd H') : LcW J g tt te vs σ H1 D Qd := by
  have lz : 100000 < sizeLine := by rw [sizeLine_eq]; decide
  have nB : D ∉ B := fun h => hB D h hD
  refine lc_it w (fun i H' => ∃ acc F', acc.length ≤ i ∧ Gr B F H1 F' H' ∧ F' D = none ∧ H' D = some (.lst acc) ∧ Pv i acc F' H')
    ⟨[], F, Nat.le_refl _, (Gr.refl sees).newM hD, sees.dm hD, upd_same, hP _ _ _ _ _ _ h0 hD⟩ (fun i H' hi ⟨acc, F', _, gr, _, _, p⟩ => hG i acc F' H' hi gr p) (fun i x H' H'' hi ⟨acc, F', hl, gr, fD, hDc, p⟩ hy => ?_) fun H' ⟨acc, F', _, gr, fD, hDc, p⟩ => q acc F' H' gr fD hDc p
  obtain ⟨F'', g1, t⟩ := hs i acc x F' H' H'' hi hl gr p hy
  have g1' := gr.trans g1 fun b hb => .inl hb
  have nn : ¬ IsNT (H' D) := by rw [hDc]; exact fun z => nomatch z
  refine t _ _ (fun F3 H3 g3 p3 => ⟨acc, F3, by omega, g1'.trans g3 fun b hb => .inl hb, ?_, ?_, p3⟩) fun y F3 H3 g3 p3 => ⟨acc, ?_, by omega, acc ++ [y], F3, by simp; omega, (g1'.trans g3 fun b hb => .inl hb).mut ?_ (.inr hD), ?_, upd_same, hP _ _ _ _ _ _ p3 hD⟩
  · exact (g1.trans g3 fun b hb => .inl hb).none' fD nn
  · exact (g1.trans g3 fun b hb => .inl hb).hh D _ nB hDc
  · exact (g1.trans g3 fun b hb => .inl hb).hh D _ nB hDc
  · exact (g1.trans g3 fun b hb => .inl hb).none' fD nn
  · exact (g1.trans g3 fun b hb => .inl hb).none' fD nn
end
def spSome (K : PySem.W.Frag) : Sp := fun vs H Q _ => ∃ (F : Hp) (p : Addr) (v : V) (d : PyData) (ds : List PyData) (t : Int), vs = [.ref p, v] ∧ Sees F H ∧ PenAt K F H p t ∧ t + ds.length ≤ 1000000 ∧ Dp K F v d ∧ isSeq d ds ∧ ds.length ≤ 1000 ∧
  ∀ (L : Addr) (xs : List V) (es : List PyData) (t' : Int) F' H', es.Sublist ds → F' L = some (.lst xs) → DpAll K F' xs es → t ≤ t' → t' ≤ t + ds.length → Gr [p] F H F' H' → PenAt K F' H' p t' → Q (.ref L) H'
theorem PenAt.at {K : PySem.W.Frag} {F H : Hp} {p : Addr} {t : Int} (h : PenAt K F H p t) : ∃ o, H p = some o := by
  obtain ⟨_, c, r, cells, h1, _⟩ := h
  exact ⟨_, h1⟩
theorem PenAt.upd' {K : PySem.W.Frag} {F H : Hp} {p D : Addr} {t : Int} {o : HO} (h : PenAt K F H p t) (n : p ≠ D) : PenAt K F (upd H D o) p t := by
  obtain ⟨f, c, r, cells, h1, h2⟩ := h
  exact ⟨f, c, r, cells, by rw [upd_ne n]; exact h1, h2⟩
/-- what grows without the pen -/
theorem PenAt.gr {K : PySem.W.Frag} {B : List Addr} {F H F' H' : Hp} {p : Addr} {t : Int} (h : PenAt K F H p t) (g : Gr B F H F' H') (n : p ∉ B) : PenAt K F' H' p t := by
  obtain ⟨f, c, r, cells, h1, h2, h3⟩ := h
  exact ⟨g.none' f (by rw [h1]; exact fun z => nomatch z), c, r, cells, g.hh p _ n h1, h2.ex g.ff, h3⟩
def flat1 : PyData → Bool
  | .int _ => true
  | .str x => PyData.strOk x
  | _ => false
theorem flat1_lay : ∀ {ds : List PyData}, (∀ d ∈ ds, flat1 d = true) → PyData.canLayAll0 ds = true ∧ PyData.depthAll ds ≤ 1
  | [], _ => ⟨by simp [PyData.canLayAll0], by simp [PyData.depthAll]⟩
  | d :: r, h => by
    obtain ⟨h1, h2⟩ := flat1_lay (ds := r) fun e he => h e (List.mem_cons_of_mem _ he)
    have hd := h d List.mem_cons_self
    cases d <;> simp [flat1] at hd <;> simp [PyData.canLayAll0, PyData.depthAll, PyData.canLay0, PyData.depth, h1, hd] <;> omega
theorem flat1_shaped {ds : List PyData} (h : ∀ d ∈ ds, flat1 d = true) : SeqAt.shaped (.list ds) = true := by
  obtain ⟨h1, h2⟩ := flat1_lay h
  simp [SeqAt.shaped, PyData.canLay0, PyData.depth, h1]
  omega
theorem eqv_nil (ds : List PyData) : PyData.eqv (.list ds) (.list []) = decide (ds = []) := by
  cases ds with
  | nil => simp [PyData.eqv, PyData.eqvAll]
  | cons a b => simp [PyData.eqv, PyData.eqvAll]
theorem DpAll.erase {K : PySem.W.Frag} {F : Hp} {xs : List V} {ds : List PyData} (h : DpAll K F xs ds) (k : Nat) : DpAll K F (xs.eraseIdx k) (ds.eraseIdx k) := by
  rw [List.eraseIdx_eq_take_drop_succ, List.eraseIdx_eq_take_drop_succ]
  exact (DpAll.take k h).append (DpAll.drop (k + 1) h)
def spShuf (K : PySem.W.Frag) : Sp := fun vs H Q _ => ∃ (F : Hp) (p : Addr) (v : V) (d : PyData) (ds : List PyData) (t : Int), vs = [.ref p, v] ∧ Sees F H ∧ PenAt K F H p t ∧ t + ds.length ≤ 1000000 ∧ Dp K F v d ∧ isSeq d ds ∧ ds.length ≤ 1000 ∧ (∀ e ∈ ds, flat1 e = true) ∧
  ∀ (r : V) (es : List PyData) (t' : Int) F' H', es.Perm ds → Dp K F' r (.list es) → t ≤ t' → t' ≤ t + ds.length → Gr [p] F H F' H' → PenAt K F' H' p t' → Q r H'
def spPick (K : PySem.W.Frag) : Sp := fun vs H Q _ => ∃ (F : Hp) (p : Addr) (v : V) (d : PyData) (ds : List PyData) (t : Int), vs = [.ref p, v] ∧ Sees F H ∧ PenAt K F H p t ∧ t ≤ 1000000 ∧ Dp K F v d ∧ isSeq d ds ∧ 0 < ds.length ∧ ds.length ≤ 100000 ∧
  ∀ (r : V) (e : PyData) (t' : Int) F' H', e ∈ ds → Dp K F' r e → t ≤ t' → t' ≤ t + 1 → Gr [p] F H F' H' → PenAt K F' H' p t' → Q r H'
section
variable {P : Program} {w : World} {K : PySem.W.Frag} {mg : Str → Option Value} {base : Heap}
theorem ok_pen {f : Addr} {fd : FuncData} (F : Fun K "_law_pen" "_law_pen" s__law_pen f fd) (T : Txt mg) : FnOk P w K mg base CX0 1 f fd ["script"] (spPen K) := by
  refine F.ok sc__law_pen (fun vs H Q E h => ?_) (fun cdv A outer s H vs Q E hr h => ?_)
  · obtain ⟨F0, v, ns, rfl, _⟩ := h
    rfl
  · obtain ⟨F0, v, ns, rfl, fs, hv, q⟩ := h
    refine ⟨_, (pss_one (ps_ret (pe_lst (pa_cons (pe_callTy (cr_list K) (by rfl) T.list bt_list (pa_cons (pe_slice (sl_LA K) (pv 0) po_none (po_some pe_int)) pa_nil)) (pa_cons pe_int (pa_cons pe_int pa_nil)))))), ?_⟩
    refine ⟨v, rfl, _, rfl, slQ_dp hv (.inl rfl) fs fun r e F1 H1 g1 tw hr1 => ?_⟩
    rw [show cutD (ns.map PyData.int) none (some 63) = (ns.take 63).map PyData.int by rw [show (63 : Int) = ((63 : Nat) : Int) from rfl, cutD_to, List.map_take]] at tw
    refine list_dp hr1 tw.r g1.fh fun D ys F2 H2 g2 hD fD hDc hacc => ?_
    refine ⟨by show 3 ≤ sizeLine; rw [sizeLine_eq]; decide, fun p hp => ?_⟩
    have gd := (g1.trans g2).done (g1.dm _ hD) fD hDc
    have gp := gd.newM (o := .lst [.ref D, .int 0, .int 0]) hp
    refine q p _ _ (gd.dm p hp) gp ⟨gd.fh.dm hp, D, 0, ns.take 63, upd_same, .lst (.inl (.inl upd_same)) (hacc.ex (Ex.new fD)), by rw [List.length_take]; omega, Int.le_refl _, Int.le_refl _⟩
theorem ok_pick {f : Addr} {fd : FuncData} (F : Fun K "_law_pick" "_law_pick" s__law_pick f fd) (T : Txt mg) (C__law_draw : Cal P w K mg base "_law_draw" 1 ["pen", "many"] [] (spDraw K)) : FnOk P w K mg base CX0 2 f fd ["pen", "some"] (spPick K) := by
  refine F.ok sc__law_pick (fun vs H Q E h => ?_) (fun cdv A outer s H vs Q E hr h => ?_)
  · obtain ⟨F0, p, v, d, ds, t, rfl, _⟩ := h
    rfl
  · obtain ⟨F0, p, v, d, ds, t, rfl, fs, hp, ht, hv, hq, l0, l1, q⟩ := h
    refine ⟨_, (pss_one (ps_ret (pe_ix (ix_LT K) (pv 1) (pe_cal C__law_draw (hr.mono (by decide)) (pa_cons (pv 0) (pa_cons (pe_callB (cr_len K) (by rfl) T.len bt_len (pa_cons (pv 1) pa_nil)) pa_nil))) (fun _ _ => rfl)))), ?_⟩
    refine ⟨_, rfl, _, rfl, _, rfl, len_dp hv hq fs ⟨F0, p, _, t, rfl, fs, hp, ht, by omega, by omega, fun i t' F1 H1 i0 i1 t1 t2 g1 hp1 => ?_⟩⟩
    obtain ⟨j, rfl⟩ : ∃ j : Nat, i = (j : Int) := ⟨i.toNat, by omega⟩
    have hj : j < ds.length := by omega
    refine ix_dp (hv.ex g1.ff) hq g1.fh (e := ds[j]) (atI_nat (List.getElem?_eq_getElem hj)) fun r hr => ?_
    exact q r _ t' F1 H1 (List.getElem_mem hj) hr t1 t2 g1 hp1
end
end TW
set_option Elab.async false
set_option linter.all false
set_option maxRecDepth 100000
set_option maxHeartbeats 8000000
/-! sets of tuples of ints and texts, of any lengths: adding one -/
namespace TW
open PySem PySem.Spec PyProof.Rows L2

/-! ### where a search of a table stops, said of its steps alone -/
section
variable {t : SetTable} {hs : List Int}
/-- the state of the search for the hash h at its c-th step -/
abbrev stepAt (t : SetTable) (h : Int) (c : Nat) : SetTable.Probe := nth t.mask (runAt t.mask (SetTable.bits h % (t.mask + 1)) (SetTable.bits h)) c
theorem stepAt_add (h : Int) (c q : Nat) : nth t.mask (stepAt t h c) q = stepAt t h (c + q) := (nth_add t.mask c _ q).symm
theorem stepAt_j (h : Int) (c q : Nat) : (nth t.mask (stepAt t h c) q).j = way t.mask h (c + q) := congrArg SetTable.Probe.j (stepAt_add h c q)
theorem nth_dummy (m : Nat) : ∀ (n : Nat) (p : SetTable.Probe), p.dummy = none → (nth m p n).dummy = none
  | 0, _, d => d
  | n + 1, p, d => nth_dummy m n (adv m p) (by unfold adv; split <;> exact d)
/-- from its c-th step on the search meets an entry of the hash, and passes none, or the first empty slot, and no entry of the hash is left -/
theorem probe_cases (T : TabOk t hs) (hashAt : Nat → Int) (h : Int) {K c : Nat} (le : c ≤ K) (fuel : K < 10 * SetTable.turns t.mask) (free : way t.mask h K ∉ t.place.toList) (full : ∀ k, k < K → way t.mask h k ∈ t.place.toList) :
    (∃ d i, c ≤ d ∧ d < K ∧ t.place.toList[i]? = some (way t.mask h d) ∧ (∀ d' i', c ≤ d' → d' < d → t.place.toList[i']? = some (way t.mask h d') → hashAt i' ≠ h) ∧ t.probe hashAt h (stepAt t h c) = some (.candidate (way t.mask h d) i (stepAt t h (d + 1)))) ∨
      ((∀ d' i', c ≤ d' → d' < K → t.place.toList[i']? = some (way t.mask h d') → hashAt i' ≠ h) ∧ t.probe hashAt h (stepAt t h c) = some (.empty (way t.mask h K) none)) := by
  have at_ : ∀ d, c ≤ d → (nth t.mask (stepAt t h c) (d - c)).j = way t.mask h d := fun d z => by rw [stepAt_j, Nat.add_sub_cancel' z]
  rcases go_spec t T.ris T.dm hashAt h (10 * SetTable.turns t.mask) (K - c) (stepAt t h c) (nth_dummy _ _ _ rfl) (by omega) (fun q lt => by rw [stepAt_j]; exact full _ (by omega)) (by rw [at_ K le]; exact free) with ⟨q, i, lt, there, _, none_, is_⟩ | ⟨none_, is_⟩
  · refine .inl ⟨c + q, i, Nat.le_add_right _ _, by omega, by rw [← stepAt_j]; exact there, fun d' i' l1 l2 e => none_ (d' - c) i' (by omega) (by rw [at_ d' l1]; exact e), ?_⟩
    rw [← stepAt_j, Nat.add_assoc, ← stepAt_add]
    exact is_
  · refine .inr ⟨fun d' i' l1 l2 e => none_ (d' - c) i' (by omega) (by rw [at_ d' l1]; exact e), ?_⟩
    rw [← at_ K le]
    exact is_
end

/-! ### tuples of ints and texts -/
abbrev hashT (P : Program) (w : World) (k : List Key) : Int := tupleKeyHash (mixKind P w) k
abbrev IsU (P : Program) (w : World) (h : Heap) (k : List Key) (a : Addr) : Prop := IsTupleKey (mixKind P w) h k a
section
variable {P : Program} {w : World} {A : Around} {E : Value → Shared → Prop} {s : Shared}
theorem items_keys {k : List Key} {vs : List Value} (r : ItemsAre (mixKind P w) k vs) : ∀ v ∈ vs, ∃ i : Key, keyIs i v = true := by
  induction r with
  | nil => exact fun v m => nomatch m
  | @cons i u ks us q _ ih =>
    intro v m
    rcases List.mem_cons.mp m with e | m
    · exact ⟨i, by rw [e]; exact q⟩
    · exact ih v m
/-- a loop over a tuple's items that asks each one something and goes on if the answer is d -/
theorem ask_each {f : Value → Sem Bool} {d : Bool} {Q : Option Bool × Unit → Shared → Prop} {body : Value → Option Bool × Unit → Sem (ForInStep (Option Bool × Unit))} : ∀ (l : List Value), (∀ v ∈ l, ∀ Q' : ForInStep (Option Bool × Unit) → Shared → Prop, Q' (.yield (none, ())) s → wpAny (model P w) A (body v (none, ())) Q' E s) →
    Q (none, ()) s → wpAny (model P w) A (forIn l (none, ()) body) Q E s
  | [], _, q => wpAny_pure q
  | v :: l, each, q => by
    rw [List.forIn_cons]
    exact wpAny_bind (each v List.mem_cons_self _ (ask_each (f := f) (d := d) l (fun u m => each u (List.mem_cons_of_mem _ m)) q))
theorem noClass {k : List Key} {b : Addr} {Q : Bool → Shared → Prop} (is_ : IsU P w s.heap k b) (q : Q false s) : wpAny (model P w) A (ofAClassStatement 8 (.ref b)) Q E s := by
  have type_ := is_.typeIs
  obtain ⟨o, its, n, at_b, _, data, keys⟩ := is_
  unfold ofAClassStatement
  refine wpAny_bind (wpAny_typeOf type_ ?_)
  have yes : (("tuple" : String) == "tuple") = true := by decide
  simp only [yes, if_true]
  refine wpAny_bind (wpAny_pure ?_)
  simp only [Bool.not_true, Bool.false_eq_true, if_false]
  refine wpAny_bind (wpAny_seqItems at_b data ?_)
  refine wpAny_bind ?_
  show wpAny _ _ (forIn its _ _) _ _ s
  rw [← Array.forIn_toList]
  refine ask_each (f := ofAClassStatement 7) (d := false) its.toList (fun v m Q' q' => ?_) (wpAny_pure q)
  obtain ⟨i, z⟩ := items_keys keys v m
  rcases keyIs_shape z with ⟨j, tk, _, rfl⟩ | ⟨x, tk, _, rfl⟩ <;> exact wpAny_bind (wpAny_pure (wpAny_pure q'))
theorem hashWay {k : List Key} {b : Addr} {Q : Bool → Shared → Prop} (is_ : IsU P w s.heap k b) (q : ∀ c, Q c s) : wpAny (model P w) A (hashByValue 8 (.ref b)) Q E s := by
  have type_ := is_.typeIs
  obtain ⟨o, its, n, at_b, _, data, keys⟩ := is_
  unfold hashByValue
  refine wpAny_bind (wpAny_specialOf type_ F.slot_tuple_hash.lookup ?_)
  show wpAny _ _ (seqItems? (.ref b) >>= _) _ _ s
  refine wpAny_bind (wpAny_seqItems at_b data (wpAny_bind ?_))
  show wpAny _ _ (forIn its _ _) _ _ s
  rw [← Array.forIn_toList]
  refine wpAny_forIn_list _ (fun rest _ s' => s' = s ∧ ∀ v ∈ rest, ∃ i : Key, keyIs i v = true) _ ?_ ?_ _ _ ⟨rfl, items_keys keys⟩
  · rintro v rest r s' ⟨rfl, all⟩
    have go : ∀ c : Bool, wpAny (model P w) A (do if (!c) = true then pure (ForInStep.done (some false, ())) else pure (ForInStep.yield (none, ()))) (fun r' s'' => match r' with | .done b => (fun (r : Option Bool × Unit) s' => wpAny (model P w) A (match r.1 with | none => pure true | some a => pure a) Q E s') b s'' | .yield b => s'' = s' ∧ ∀ u ∈ rest, ∃ i : Key, keyIs i u = true) E s' := fun c => by
      cases c
      · exact wpAny_pure (wpAny_pure (q false))
      · exact wpAny_pure ⟨rfl, fun u m => all u (List.mem_cons_of_mem _ m)⟩
    obtain ⟨i, z⟩ := all v List.mem_cons_self
    rcases keyIs_shape z with ⟨j, tk, _, rfl⟩ | ⟨x, tk, _, rfl⟩
    · exact wpAny_bind (wpAny_pure (go true))
    · exact wpAny_bind (wpAny_pure (go false))
  · rintro ⟨r1, r2⟩ s' ⟨rfl, _⟩
    cases r1 <;> exact wpAny_pure (q _)
end
end TW
namespace TW
open PySem PySem.Spec PyProof.Rows L2
section
variable {P : Program} {w : World} {A : Around} {E : Value → Shared → Prop} {s : Shared}
/-- the set at a: what stands in it, each at its address; nothing is said of the tuples themselves -/
structure SetU (P : Program) (w : World) (h : Heap) (a : Addr) (L : List (Addr × List Key)) (o : Obj) (es : Array (Int × Value)) (ep : Nat) (t : SetTable) : Prop where
  obj : h.get? a = some o
  exact_ : o.ExactSet
  data : o.data = .set es ep t
  rows : es.toList = L.map fun p => (hashT P w p.2, Value.ref p.1)
  tab : TabOk t (L.map fun p => hashT P w p.2)
  once : (L.map (·.2)).Nodup
  led : w.params.followText "set-order" = true ∨ t.led = true
  room : L.length * 5 < t.mask * 3
  few : L.length < 64
def Tups (P : Program) (w : World) (h : Heap) (L : List (Addr × List Key)) : Prop := ∀ p ∈ L, IsU P w h p.2 p.1
variable {a : Addr} {L : List (Addr × List Key)} {o : Obj} {es : Array (Int × Value)} {ep : Nat} {t : SetTable}
theorem SetU.size {h : Heap} (S : SetU P w h a L o es ep t) : es.size = L.length := by
  have z := congrArg List.length S.rows
  rw [Array.length_toList, List.length_map] at z
  exact z
theorem SetU.places {h : Heap} (S : SetU P w h a L o es ep t) : t.place.size = L.length := by
  have z := S.tab.sz
  rw [List.length_map] at z
  exact z
theorem SetU.fits {h : Heap} (S : SetU P w h a L o es ep t) : t.fits es.size = true := by
  have z1 := S.places
  have z2 := S.size
  have z3 := S.room
  unfold SetTable.fits SetTable.fill
  rw [S.tab.dm, Bool.and_eq_true, beq_iff_eq, decide_eq_true_eq]
  show t.place.size = es.size ∧ t.place.size + 0 ≤ t.mask
  omega
theorem SetU.at {h : Heap} (S : SetU P w h a L o es ep t) {i : Nat} {p : Addr × List Key} (e : L[i]? = some p) : es[i]? = some (hashT P w p.2, Value.ref p.1) := by
  rw [← Array.getElem?_toList, S.rows, List.getElem?_map, e]
  rfl
/-- what stands at a slot that is taken -/
theorem SetU.live {h : Heap} (S : SetU P w h a L o es ep t) {i j : Nat} (e : t.place.toList[i]? = some j) : ∃ p, L[i]? = some p := by
  have lt := (List.getElem?_eq_some_iff.mp e).1
  rw [Array.length_toList, S.places] at lt
  exact ⟨_, List.getElem?_eq_getElem lt⟩
/-- a search shows nothing of the table: all that has the hash is a tuple -/
theorem unseen {k : List Key} {b : Addr} {Q : Bool → Shared → Prop} (is_ : IsU P w s.heap k b) (q : Q false s) : ∀ (ys : List Value), (∀ y ∈ ys, ∃ k' c, y = Value.ref c ∧ IsU P w s.heap k' c) → wpAny (model P w) A (searchCouldBeSeen (.ref b) ys) Q E s := by
  intro ys all
  unfold searchCouldBeSeen
  refine wpAny_bind (ask_each (f := fun _ => pure false) (d := false) ys (fun y m Q' q' => ?_) (wpAny_pure q))
  obtain ⟨k', c, rfl, is'⟩ := all y m
  dsimp only
  by_cases very : (b == c || (carriedByValue (.ref b) && carriedByValue (.ref c))) = true
  · exact wp_if_pos very (wpAny_pure q')
  · refine wp_if_neg very (wpAny_bind (wpAny_eqIsQuiet_tuple is_ ?_))
    refine wp_if_neg (by simp) (wpAny_bind (wpAny_eqIsQuiet_tuple is' ?_))
    refine wp_if_neg (by simp) (wpAny_bind (noClass is_ ?_))
    refine wp_if_neg (by simp) (wpAny_bind (noClass is' ?_))
    exact wp_if_neg (by simp) (wpAny_pure q')
/-- the search for k, at its c-th step; nothing that is k has been passed -/
theorem seek (S : SetU P w s.heap a L o es ep t) (tups : Tups P w s.heap L) {x : Addr} {k : List Key} (is_ : IsU P w s.heap k x) (hu : A.units < cLine) {K : Nat} (fuel : K < 10 * SetTable.turns t.mask) (free : way t.mask (hashT P w k) K ∉ t.place.toList)
    (full : ∀ d, d < K → way t.mask (hashT P w k) d ∈ t.place.toList) {Q : SetFound → Shared → Prop} (yes : k ∈ L.map (·.2) → Q (.there none) s) (no : k ∉ L.map (·.2) → Q (.free (way t.mask (hashT P w k) K) false) s) :
    ∀ (left c f : Nat) (stand : Option SetTable.Probe), K - c ≤ left → c ≤ K → left < f → stand.getD (t.probeStart (hashT P w k)) = stepAt t (hashT P w k) c → (∀ (i : Nat) p, L[i]? = some p → p.2 = k → ∃ d, c ≤ d ∧ d < K ∧ t.place.toList[i]? = some (way t.mask (hashT P w k) d)) →
      wpAny (model P w) A (setSearchFrom a (.ref x) (hashT P w k) true f stand) Q E s := by
  intro left
  induction left with
  | zero =>
    intro c f stand l1 le lf st ahead
    obtain ⟨f, rfl⟩ : ∃ f', f = f' + 1 := ⟨f - 1, by omega⟩
    rw [setSearchFrom_succ]
    refine wpAny_bind (wpAny_setState_of S.obj S.data S.fits ?_)
    dsimp only
    refine wp_if_neg (by unfold SetTable.gaveWay; rw [mask_odd S.tab.mok]; decide) ?_
    rcases probe_cases S.tab (fun i => (es[i]?.map (·.1)).getD 0) (hashT P w k) le fuel free full with ⟨d, i, d1, d2, _⟩ | ⟨_, is_⟩
    · omega
    rw [st, is_]
    refine wpAny_pure (no fun m => ?_)
    obtain ⟨p, p1, p2⟩ := List.mem_map.mp m
    obtain ⟨i, lt, e⟩ := List.getElem_of_mem p1
    obtain ⟨d, d1, d2, _⟩ := ahead i p (by rw [List.getElem?_eq_getElem lt, e]) p2
    omega
  | succ left ih =>
    intro c f stand l1 le lf st ahead
    obtain ⟨f, rfl⟩ : ∃ f', f = f' + 1 := ⟨f - 1, by omega⟩
    rw [setSearchFrom_succ]
    refine wpAny_bind (wpAny_setState_of S.obj S.data S.fits ?_)
    dsimp only
    refine wp_if_neg (by unfold SetTable.gaveWay; rw [mask_odd S.tab.mok]; decide) ?_
    have hash_at : ∀ {i : Nat} {p : Addr × List Key}, L[i]? = some p → (es[i]?.map (·.1)).getD 0 = hashT P w p.2 := fun e => by rw [S.at e]; rfl
    rcases probe_cases S.tab (fun i => (es[i]?.map (·.1)).getD 0) (hashT P w k) le fuel free full with ⟨d, i, d1, d2, at_d, none_, is2⟩ | ⟨none_, is2⟩
    · rw [st, is2]
      dsimp only
      obtain ⟨p, at_i⟩ := S.live at_d
      have m := List.mem_of_getElem? at_i
      have live : t.slot (way t.mask (hashT P w k) d) = .live i := slot_live S.tab.ris at_d
      have go : wpAny (model P w) A (searchRest a (.ref x) (hashT P w k) true f es t (way t.mask (hashT P w k) d) i (stepAt t (hashT P w k) (d + 1))) Q E s := by
        unfold searchRest
        rw [S.at at_i]
        dsimp only
        refine wpAny_bind (wpAny_holding (wpAny_eqBool_tuple hu (tups p m) is_ (wpAny_bind (wpAny_setState_of S.obj S.data S.fits ?_))))
        dsimp only
        by_cases same : p.2 = k
        · exact wp_if_pos (by simp [same]) (wpAny_pure (yes (List.mem_map.mpr ⟨p, m, same⟩)))
        · refine wp_if_neg (by simp [same]) ?_
          rw [sameMem]
          simp only [if_true, live, S.at at_i]
          refine wpAny_bind (wpAny_isSame_ref_self (wpAny_bind (wpAny_pure ?_)))
          simp only [if_true]
          refine wp_if_neg (by simp [same]) (ih (d + 1) f _ (by omega) (by omega) (by omega) rfl fun i' p' e1 e2 => ?_)
          obtain ⟨d', g1, g2, g3⟩ := ahead i' p' e1 e2
          rcases Nat.lt_trichotomy d' d with lt | rfl | gt
          · exact absurd ((hash_at e1).trans (by rw [e2])) (none_ d' i' g1 lt g3)
          · have z := (slot_live S.tab.ris g3).symm.trans live
            injection z with z
            subst z
            cases at_i.symm.trans e1
            exact absurd e2 same
          · exact ⟨d', gt, g2, g3⟩
      by_cases led : t.led = true
      · exact wp_if_neg (by simp [led]) go
      · refine wp_if_pos (by simp [led]) (wpAny_bind (unseen is_ (wp_if_neg (by decide) go) _ fun y my => ?_))
        obtain ⟨e, e1, rfl⟩ := List.mem_map.mp my
        have e2 : e ∈ es.toList := by
          have z : e ∈ es ∧ e.1 = hashT P w k := by simpa using e1
          simpa using z.1
        rw [S.rows] at e2
        obtain ⟨p2, p3, rfl⟩ := List.mem_map.mp e2
        exact ⟨_, _, rfl, tups p2 p3⟩
    · rw [st, is2]
      refine wpAny_pure (no fun m => ?_)
      obtain ⟨p, p1, p2⟩ := List.mem_map.mp m
      obtain ⟨i, lt, e⟩ := List.getElem_of_mem p1
      have e' : L[i]? = some p := by rw [List.getElem?_eq_getElem lt, e]
      obtain ⟨d, d1, d2, d3⟩ := ahead i p e' p2
      exact none_ d i d1 d2 d3 ((hash_at e').trans (by rw [p2]))
/-- the search of an add -/
theorem seek_all (S : SetU P w s.heap a L o es ep t) (tups : Tups P w s.heap L) {x : Addr} {k : List Key} (is_ : IsU P w s.heap k x) (hu : A.units < cLine) {Q : SetFound → Shared → Prop} (yes : k ∈ L.map (·.2) → Q (.there none) s)
    (no : ∀ K, k ∉ L.map (·.2) → way t.mask (hashT P w k) K ∉ t.place.toList → (∀ d, d < K → way t.mask (hashT P w k) d ∈ t.place.toList) → Q (.free (way t.mask (hashT P w k) K) false) s) : wpAny (model P w) A (setSearch a (.ref x) (hashT P w k) true) Q E s := by
  have room := S.room
  obtain ⟨K, fuel, free, full⟩ := S.tab.first (by rw [List.length_map]; omega) (hashT P w k)
  have turns : 10 * SetTable.turns t.mask < 100000 := by
    unfold SetTable.turns
    rcases S.tab.mok with e | e | e <;> omega
  refine seek S tups is_ hu fuel free full yes (fun n => no K n free full) K 0 100000 none (by omega) (Nat.zero_le _) (by omega) rfl fun i p e1 e2 => ?_
  have e3 : (L.map fun p => hashT P w p.2)[i]? = some (hashT P w k) := by rw [List.getElem?_map, e1, ← e2]; rfl
  have lt : i < t.place.toList.length := by
    rw [Array.length_toList, S.places]
    exact (List.getElem?_eq_some_iff.mp e1).1
  obtain ⟨d, d1, d2⟩ := S.tab.before free e3 (List.getElem?_eq_getElem lt)
  exact ⟨d, Nat.zero_le _, d1, by rw [List.getElem?_eq_getElem lt, d2]⟩
end
end TW
namespace TW
open PySem PySem.Spec PyProof.Rows L2
section
variable {P : Program} {w : World} {A : Around} {E : Value → Shared → Prop} {s : Shared}
variable {a : Addr} {L : List (Addr × List Key)} {o : Obj} {es : Array (Int × Value)} {ep : Nat} {t : SetTable}
theorem IsU.other {h h' : Heap} {k : List Key} {b : Addr} (is_ : IsU P w h k b) (at_a : h.get? a = some o) (data : o.data = .set es ep t) (same : Heap.SameBut a h h') : IsU P w h' k b := by
  obtain ⟨o', its, n, at_b, c, data', r⟩ := is_
  refine ⟨o', its, n, (same.2 b fun e => ?_).trans at_b, c, data', r⟩
  subst e
  cases at_b.symm.trans at_a
  exact nomatch data.symm.trans data'
theorem Tups.other {h h' : Heap} (tups : Tups P w h L) (at_a : h.get? a = some o) (data : o.data = .set es ep t) (same : Heap.SameBut a h h') : Tups P w h' L := fun p m => (tups p m).other at_a data same
/-- a set is laid anew in the order of some of its indices -/
theorem picked (L : List (Addr × List Key)) (es : Array (Int × Value)) (rows : es.toList = L.map fun p => (hashT P w p.2, Value.ref p.1)) : ∀ (is_ : List Nat), (∀ i ∈ is_, i < L.length) → ∃ L2 : List (Addr × List Key), is_.filterMap (fun i => L[i]?) = L2 ∧ is_.filterMap (fun i => es[i]?) = L2.map (fun p => (hashT P w p.2, Value.ref p.1)) ∧
    (is_.map fun i => (es.map (·.1)).getD i 0) = L2.map (fun p => hashT P w p.2)
  | [], _ => ⟨[], rfl, rfl, rfl⟩
  | i :: is_, lt => by
    obtain ⟨L2, rfl, e2, e3⟩ := picked L es rows is_ fun j m => lt j (List.mem_cons_of_mem _ m)
    obtain ⟨p, at_L⟩ : ∃ p, L[i]? = some p := ⟨_, List.getElem?_eq_getElem (lt i List.mem_cons_self)⟩
    have at_es : es[i]? = some (hashT P w p.2, Value.ref p.1) := by
      rw [← Array.getElem?_toList, rows, List.getElem?_map, at_L]
      rfl
    refine ⟨p :: is_.filterMap (fun i => L[i]?), List.filterMap_cons_some at_L, ?_, ?_⟩
    · rw [List.filterMap_cons_some at_es, e2]
      rfl
    · rw [List.map_cons, e3, List.map_cons, Array.getD_eq_getD_getElem?, Array.getElem?_map, at_es]
      rfl
theorem all_picked {α : Type} (L : List α) : (List.range L.length).filterMap (fun i => L[i]?) = L := by
  induction L with
  | nil => rfl
  | cons x L ih =>
    rw [List.length_cons, List.range_succ_eq_map, List.filterMap_cons_some (b := x) (by rfl), List.filterMap_map]
    exact congrArg (x :: ·) ih
/-- growing -/
theorem grow (at_a : s.heap.get? a = some o) (ex : o.ExactSet) (data : o.data = .set es ep t) (rows : es.toList = L.map fun p => (hashT P w p.2, Value.ref p.1)) (tab : TabOk t (L.map fun p => hashT P w p.2)) (once : (L.map (·.2)).Nodup) (led : w.params.followText "set-order" = true ∨ t.led = true) (few : L.length < 64)
    (fit : L.length ≤ t.mask) {wanted M : Nat} (is_M : SetTable.sizeAbove wanted - 1 = M) (ok : MaskOk M) (le : SetTable.sizeAbove wanted ≤ 128) (room : L.length * 5 < M * 3) {Q : Unit → Shared → Prop}
    (q : ∀ h' L' o' es' ep' t', Heap.SameBut a s.heap h' → SetU P w h' a L' o' es' ep' t' → L'.Perm L → Q () { s with heap := h' }) : wpAny (model P w) A (setRelay a wanted) Q E s := by
  have size : es.size = L.length := by
    have z := congrArg List.length rows
    rw [Array.length_toList, List.length_map] at z
    exact z
  have psize := tab.sz
  rw [List.length_map] at psize
  have fits : t.fits es.size = true := by
    unfold SetTable.fits SetTable.fill
    rw [tab.dm, Bool.and_eq_true, beq_iff_eq, decide_eq_true_eq]
    show t.place.size = es.size ∧ t.place.size + 0 ≤ t.mask
    omega
  obtain ⟨t', order, e, pm, T, mask, led', _, _⟩ := relaid_ok t (hs := es.map (·.1)) (wanted := wanted) is_M ok (by rw [Array.size_map]; omega)
  rw [Array.size_map, size] at pm
  obtain ⟨L2, e1, e2, e3⟩ := picked (P := P) (w := w) L es rows order.toList fun i m => List.mem_range.mp (pm.mem_iff.mp m)
  rw [e3] at T
  have perm : L2.Perm L := by
    have z := pm.filterMap (fun i => L[i]?)
    rw [e1, all_picked] at z
    exact z
  have e4 : (order.filterMap (es[·]?)).toList = L2.map (fun p => (hashT P w p.2, Value.ref p.1)) := by rw [Array.toList_filterMap]; exact e2
  have size2 : (order.filterMap (es[·]?)).size = es.size := by
    rw [← Array.length_toList, e4, List.length_map, perm.length_eq, size]
  rw [setRelay_eq]
  refine wpAny_bind (wpAny_setState_of at_a data fits ?_)
  dsimp only
  refine wp_if_neg (by rw [sizeLine_eq]; omega) ?_
  rw [e]
  dsimp only
  refine wpAny_bind (wp_if_neg (by rw [size2]; simp) (wpAny_pure ?_))
  dsimp only
  refine wpAny_storeSet_of at_a data ?_ (by rw [size2, size, sizeLine_eq]; omega)
  exact q _ L2 _ _ _ t' (Heap.SameBut.update ..) ⟨store_at at_a data, ⟨ex.1, ex.2.1, ex.2.2⟩, rfl, e4, T, (perm.map (·.2)).nodup_iff.mpr once, by rw [led']; exact led, by rw [perm.length_eq, mask]; exact room, by rw [perm.length_eq]; exact few⟩ perm
/-- set.add of a tuple -/
theorem add_tup (S : SetU P w s.heap a L o es ep t) (tups : Tups P w s.heap L) {x : Addr} {k : List Key} (is_ : IsU P w s.heap k x) (hu : A.units < cLine) (few : L.length + 1 < 64) {Q : Bool → Shared → Prop}
    (q : ∀ b h' L' o' es' ep' t', Heap.SameBut a s.heap h' → SetU P w h' a L' o' es' ep' t' → (k ∈ L.map (·.2) ∧ L' = L) ∨ (k ∉ L.map (·.2) ∧ L'.Perm ((x, k) :: L)) → Q b { s with heap := h' }) : wpAny (model P w) A (setAddHashed a (.ref x) (hashT P w k)) Q E s := by
  unfold setAddHashed
  refine wpAny_holding ?_
  rw [show (100000 : Nat) = 99999 + 1 from rfl, setAddHashedIn_succ]
  refine wpAny_bind (wpAny_setState_of S.obj S.data S.fits ?_)
  dsimp only
  refine wp_if_neg (by simp [byScan, Value.scannable]) ?_
  refine wpAny_bind (seek_all S tups is_ hu (fun m => wpAny_pure (q false s.heap L o es ep t (Heap.SameBut.refl a s.heap) S (.inl ⟨m, rfl⟩))) fun K n free full => ?_)
  refine wpAny_bind (wpAny_setState_of S.obj S.data S.fits ?_)
  dsimp only
  obtain ⟨p1, p2, p3, p4, p5, p6, p7, p8, p9⟩ := S.tab.put free full
  generalize SetTable.below t.place (way t.mask (hashT P w k) K) = j at p1 p2 p3
  have pm : (L.take j ++ (x, k) :: L.drop j).Perm ((x, k) :: L) := put_perm L j (x, k)
  have rows : (SetTable.insertAt es j (hashT P w k, Value.ref x)).toList = (L.take j ++ (x, k) :: L.drop j).map fun p => (hashT P w p.2, Value.ref p.1) := by
    rw [SetTable.toList_insertAt, S.rows, List.map_append, List.map_cons, List.map_take, List.map_drop]
  have hashes : (L.map fun p => hashT P w p.2).take j ++ hashT P w k :: (L.map fun p => hashT P w p.2).drop j = (L.take j ++ (x, k) :: L.drop j).map fun p => hashT P w p.2 := by rw [List.map_append, List.map_cons, List.map_take, List.map_drop]
  rw [hashes] at p3
  rw [List.length_map] at p9
  generalize t.put (way t.mask (hashT P w k) K) = pt at p1 p3 p4 p5 p6 p7 p8 p9 ⊢
  obtain ⟨t1, j'⟩ := pt
  dsimp only at p1 p3 p4 p5 p6 p7 p8 p9 ⊢
  subst p1
  have size := congrArg List.length rows
  rw [Array.length_toList, List.length_map, pm.length_eq, List.length_cons] at size
  have once : ((L.take j' ++ (x, k) :: L.drop j').map (·.2)).Nodup := (pm.map (·.2)).nodup_iff.mpr (by rw [List.map_cons]; exact List.nodup_cons.mpr ⟨n, S.once⟩)
  generalize SetTable.insertAt es j' (hashT P w k, Value.ref x) = es1 at rows size ⊢
  generalize L.take j' ++ (x, k) :: L.drop j' = L1 at pm rows once p3
  -- whatever the hash is carried by
  have rest : ∀ t2 : SetTable, t2.place = t1.place → t2.mask = t1.mask → t2.dummies = t1.dummies → t2.led = t1.led → wpAny (model P w) A (do storeSet a es1 t2; if (!false && t2.tooFull) = true then (do setRelay a (SetTable.grown (es.size + 1)); pure true) else pure true) Q E s := fun t2 x1 x2 x3 x4 => by
    have T2 : TabOk t2 (L1.map fun p => hashT P w p.2) := by
      refine ⟨by rw [x1]; exact p3.ris, x3.trans p3.dm, by rw [x1]; exact p3.sz, by rw [x2]; exact p3.mok, by rw [x1, x2]; exact p3.bd, ?_⟩
      rw [x1, x2]
      exact p3.reach
    have fill : t2.fill = L.length + 1 := by
      unfold SetTable.fill at p9 ⊢
      rw [x1, x3]
      exact p9
    have full_ : t2.tooFull = decide ((L.length + 1) * 5 ≥ t.mask * 3) := by
      unfold SetTable.tooFull
      rw [fill, x2, p4]
    have led2 : w.params.followText "set-order" = true ∨ t2.led = true := by rw [x4, p5]; exact S.led
    refine wpAny_bind (wpAny_storeSet_of S.obj S.data ?_ (by rw [size, sizeLine_eq]; omega))
    have sb : Heap.SameBut a s.heap (s.heap.update a (Obj.putSet es1 t2)) := Heap.SameBut.update ..
    have at_a := store_at (es' := es1) (t' := t2) S.obj S.data
    have room := S.room
    by_cases big : (L.length + 1) * 5 ≥ t.mask * 3
    · refine wp_if_pos (by rw [full_]; simpa using big) ?_
      have go : ∀ M, SetTable.sizeAbove (SetTable.grown (L.length + 1)) = M + 1 → MaskOk M → M < 128 → (L.length + 1) * 5 < M * 3 → wpAny (model P w) A (do setRelay a (SetTable.grown (es.size + 1)); pure true) Q E { s with heap := s.heap.update a (Obj.putSet es1 t2) } := fun M y1 y2 y3 y4 => by
        rw [S.size]
        refine wpAny_bind (grow (s := { s with heap := s.heap.update a (Obj.putSet es1 t2) }) (M := M) at_a ⟨S.exact_.1, S.exact_.2.1, S.exact_.2.2⟩ rfl rows T2 once led2 (by rw [pm.length_eq]; exact few) (by rw [pm.length_eq, x2, p4, List.length_cons]; rcases S.tab.mok with e | e | e <;> omega) (by omega) y2 (by omega) (by rw [pm.length_eq]; exact y4) ?_)
        exact fun h' L' o' es' ep' t' sb' S' pm' => wpAny_pure (q true h' L' o' es' ep' t' (sb.trans sb') S' (.inr ⟨n, pm'.trans pm⟩))
      rcases S.tab.mok with e | e | e
      · have l4 : L.length = 4 := by omega
        exact go 31 (by rw [l4, size_20]) (.inr (.inl rfl)) (by decide) (by omega)
      · have l18 : L.length = 18 := by omega
        exact go 127 (by rw [l18, size_76]) (.inr (.inr rfl)) (by decide) (by omega)
      · omega
    · refine wp_if_neg (by rw [full_]; simpa using big) (wpAny_pure (q true _ L1 _ es1 _ t2 sb ⟨at_a, ⟨S.exact_.1, S.exact_.2.1, S.exact_.2.2⟩, rfl, rows, T2, once, led2, ?_, by rw [pm.length_eq]; exact few⟩ (.inr ⟨n, pm⟩)))
      rw [pm.length_eq, x2, p4, List.length_cons]
      omega
  have whole : ∀ c : Bool, wpAny (model P w) A (do storeSet a es1 (if c = true then t1 else { t1 with plain := false }); if (!false && (if c = true then t1 else { t1 with plain := false }).tooFull) = true then (do setRelay a (SetTable.grown (es.size + 1)); pure true) else pure true) Q E s := fun c => by
    cases c
    · exact rest _ rfl rfl rfl rfl
    · exact rest _ rfl rfl rfl rfl
  by_cases pl : t1.plain = true
  · exact wp_if_pos pl (wpAny_bind (hashWay is_ whole))
  · exact wp_if_neg pl (wpAny_bind (wpAny_pure (whole true)))
end
end TW
set_option Elab.async false
set_option linter.all false
set_option maxRecDepth 100000
set_option maxHeartbeats 8000000
/-! set(xs) of tuples, sorted of it: tuples of any lengths, the empty one among them -/
namespace TW
open PySem PySem.Spec PyProof.Rows L2
/-! ### set(xs) -/
/-- what L has of the first i of ks -/
structure HasT (ks : List (Addr × List Key)) (i : Nat) (L : List (Addr × List Key)) : Prop where
  sub : ∀ p ∈ L, p ∈ ks.take i
  all : ∀ p ∈ ks.take i, p.2 ∈ L.map (·.2)
  le : L.length ≤ i
theorem HasT.next {ks L L' : List (Addr × List Key)} {i : Nat} {x : Addr × List Key} (h : HasT ks i L) (at_i : ks[i]? = some x) (q : (x.2 ∈ L.map (·.2) ∧ L' = L) ∨ (x.2 ∉ L.map (·.2) ∧ L'.Perm (x :: L))) : HasT ks (i + 1) L' := by
  have tk : ks.take (i + 1) = ks.take i ++ [x] := by rw [List.take_add_one, at_i]; rfl
  rcases q with ⟨m, rfl⟩ | ⟨_, pm⟩
  · refine ⟨fun p z => ?_, fun p z => ?_, Nat.le_succ_of_le h.le⟩
    · rw [tk]; exact List.mem_append_left _ (h.sub p z)
    · rw [tk, List.mem_append, List.mem_singleton] at z
      rcases z with z | rfl
      · exact h.all p z
      · exact m
  · refine ⟨fun p z => ?_, fun p z => ?_, by rw [pm.length_eq, List.length_cons]; exact Nat.succ_le_succ h.le⟩
    · rw [tk, List.mem_append, List.mem_singleton]
      rcases List.mem_cons.mp (pm.mem_iff.mp z) with rfl | z
      · exact .inr rfl
      · exact .inl (h.sub p z)
    · rw [(pm.map (·.2)).mem_iff, List.map_cons, List.mem_cons]
      rw [tk, List.mem_append, List.mem_singleton] at z
      rcases z with z | rfl
      · exact .inr (h.all p z)
      · exact .inl rfl
section
variable {P : Program} {w : World} {A : Around} {E : Value → Shared → Prop} {s : Shared}
theorem Tups.keep {h h' : Heap} {L : List (Addr × List Key)} (tups : Tups P w h L) (k : ∀ p ∈ L, ∀ o, h.get? p.1 = some o → h'.get? p.1 = some o) : Tups P w h' L := fun p m => by
  obtain ⟨o, its, n, e, r⟩ := tups p m
  exact ⟨o, its, n, k p m o e, r⟩
theorem su_update {I : Addr} {fp wr : List Addr} {G : Array GenState → Array GenState → Prop} {n : Nat} {Pv : Nat → Value → Prop} {St : Nat → Shared → Prop} {R : Result → Shared → Prop}
    (W : WalksS P w A.in1 I fp wr G n Pv St) (S : Addr) (hSf : S ∉ fp) (ks : List (Addr × List Key)) (hn : n = ks.length) (few : ks.length < 64) (hval : ∀ i v, Pv i v → ∃ p, ks[i]? = some p ∧ v = .ref p.1) (out : ∀ p ∈ ks, p.1 ∉ wr ∧ p.1 ≠ S) (hu : A.in1.units < cLine) :
    ∀ (m i : Nat) (s : Shared), n - i = m → i ≤ n → St i s → Tups P w s.heap ks → (∃ L o es ep t, SetU P w s.heap S L o es ep t ∧ HasT ks i L) →
      (∀ s' L o es ep t, Moved (S :: wr) G s s' → SetU P w s'.heap S L o es ep t → HasT ks n L → R (.ok (.ret .none)) s') → codeAny (model P w) A (.builtin "set.update.loop" ⟨[.ref S, .ref I], []⟩) R s := by
  have nw : S ∉ wr := fun h => hSf (W.sub _ h)
  have sb : ∀ b ∈ wr, b ∈ S :: wr := fun b hb => List.mem_cons_of_mem _ hb
  intro m
  induction m with
  | zero =>
    intro i s hm hi hst tups ⟨L, o, es, ep, t, S0, has⟩ hR
    obtain rfl : i = n := by omega
    refine codeAny_builtin F.entry_set_update_loop ?_
    rw [Around.under_plainId F.plain_set_update_loop _]
    show wpAny _ A.in1 (pyNext (.ref I) >>= _) _ _ s
    refine wpAny_bind (W.done s _ _ hst fun s' mv => ?_)
    exact wpAny_pure (hR s' L o es ep t (mv.mono sb) ⟨mv.heap S _ nw S0.obj, S0.exact_, S0.data, S0.rows, S0.tab, S0.once, S0.led, S0.room, S0.few⟩ has)
  | succ m ih =>
    intro i s hm hi hst tups ⟨L, o, es, ep, t, S0, has⟩ hR
    have lt : i < n := by omega
    refine codeAny_builtin F.entry_set_update_loop ?_
    rw [Around.under_plainId F.plain_set_update_loop _]
    show wpAny _ A.in1 (pyNext (.ref I) >>= _) _ _ s
    refine wpAny_bind (W.item i s _ _ lt hst fun v s' hP st' mv => ?_)
    obtain ⟨p, at_i, rfl⟩ := hval i v hP
    have S1 : SetU P w s'.heap S L o es ep t := ⟨mv.heap S _ nw S0.obj, S0.exact_, S0.data, S0.rows, S0.tab, S0.once, S0.led, S0.room, S0.few⟩
    have tups1 : Tups P w s'.heap ks := tups.keep fun p m o e => mv.heap p.1 o (out p m).1 e
    have is_ := tups1 p (List.mem_of_getElem? at_i)
    show wpAny _ A.in1 (holding [Value.ref p.1] (setAdd S (.ref p.1)) >>= _) _ _ s'
    refine wpAny_bind (wpAny_holding ?_)
    unfold setAdd
    refine wpAny_holding (wpAny_bind (wpAny_pyHash_tuple hu is_ ?_))
    have sub : ∀ q ∈ L, q ∈ ks := fun q m => List.mem_of_mem_take (has.sub q m)
    refine add_tup (s := { s' with toks := s'.toks + (p.2.length + 1) }) S1 (fun q m => tups1 q (sub q m)) is_ hu (by have := has.le; omega) fun b h' L' o' es' ep' t' sbt S2 cases_ => ?_
    refine wpAny_pure ⟨plainId_quiet F.plain_set_update_loop _, ih (i + 1) _ (by omega) lt (W.frame _ s' _ _ st' (Nat.le_add_right _ _) fun b hb o e => ?_) (tups1.keep fun q m o e => (sbt.2 q.1 (out q m).2).trans e) ⟨L', o', es', ep', t', S2, has.next at_i cases_⟩ fun s2 L2 o2 es2 ep2 t2 mv2 S3 has2 => ?_⟩
    · rw [sbt.2 b (fun h : b = S => hSf (h ▸ hb))]; exact e
    · refine hR s2 L2 o2 es2 ep2 t2 (Moved.trans W.gtrans ((mv.mono sb).then_heap (Nat.le_add_right _ _) fun b o hb e => ?_) mv2) S3 has2
      rw [sbt.2 b (fun h : b = S => hb (h ▸ List.mem_cons_self))]; exact e
theorem su_new {h : Heap} {a : Addr} (ho : h.get? a = some (emptyS w)) : SetU P w h a [] (emptyS w) #[] 0 (.fresh 0 0 (!w.params.followText "set-order")) where
  obj := ho
  exact_ := ⟨rfl, rfl, rfl⟩
  data := rfl
  rows := rfl
  tab := ⟨List.Pairwise.nil, rfl, rfl, .inl rfl, fun x hx => (nomatch hx), fun i h j hi => (nomatch hi)⟩
  once := List.nodup_nil
  led := by
    show _ ∨ (!w.params.followText "set-order") = true
    cases w.params.followText "set-order" <;> simp
  room := by show 0 * 5 < 7 * 3; decide
  few := by show 0 < 64; decide
theorem call_set_tuples {l : Addr} {items : Array Value} (ks : List (Addr × List Key)) {Q : Value → Shared → Prop} (hh : A.handled = none) (hl : s.heap.IsList l items) (hit : items.toList = ks.map fun p => Value.ref p.1) (tups : Tups P w s.heap ks) (few : ks.length < 64) (hu : A.units + 3 < cLine)
    (h : ∀ (h' : Heap) (tk : Nat) L o es ep t, SetU P w h' s.heap.objs.size L o es ep t → HasT ks ks.length L → (∀ b o, s.heap.get? b = some o → h'.get? b = some o) → Q (.ref s.heap.objs.size) { s with heap := h', toks := tk }) :
    wpAny (model P w) A (call (.type "set") [.ref l]) Q E s := by
  have size : items.size = ks.length := by
    have z := congrArg List.length hit
    rw [Array.length_toList, List.length_map] at z
    exact z
  have hS : (s.heap.push (emptyS w)).get? s.heap.objs.size = some (emptyS w) := Heap.get?_push_size _ rfl
  refine call_set1 (set_init hS ?_)
  have hh3 : A.in1.in1.in1.handled = none := by simp [hh]
  have hz1 : (s.heap.push (emptyS w)).objs.size = s.heap.objs.size + 1 := Heap.size_push ..
  have hl1 : (s.heap.push (emptyS w)).IsList l items := hl.push _
  obtain ⟨ol, hol, hcl, _⟩ := id hl
  have hlS : l < s.heap.objs.size := Heap.lt_size hol
  have hneI : l ≠ (s.heap.push (emptyS w)).objs.size := by rw [hz1]; exact Nat.ne_of_lt (Nat.lt_succ_of_lt hlS)
  have old : ∀ p ∈ ks, p.1 < s.heap.objs.size := fun p m => by
    obtain ⟨o, its, n, e, _⟩ := tups p m
    exact Heap.lt_size e
  refine upd_seq (T := "list") ⟨ol, Heap.get?_push_of_some _ hol, hcl⟩ F.sub_list_set F.sub_list_frozenset (by decide) (wpAny_pyIter_list hl1 (wpAny_runValue ?_))
  refine su_update ((Walks.list hh3 _ l hneI items).toS) s.heap.objs.size (by rw [hz1]; exact nin2 (Nat.ne_of_lt (Nat.lt_succ_self _)) (Nat.ne_of_gt hlS)) ks size few (fun i v hv => ?_) (fun p m => ⟨?_, Nat.ne_of_lt (old p m)⟩) hu (items.size - 0) 0 _ (by omega) (Nat.zero_le _)
    ⟨⟨_, Heap.get?_push_size _ rfl, rfl, rfl⟩, (hl1.push _)⟩ (tups.keep fun p _ o e => Heap.get?_push_of_some _ (Heap.get?_push_of_some _ e)) ⟨[], _, #[], 0, _, su_new (Heap.get?_push_of_some _ hS), ⟨fun p z => (nomatch z), fun p z => (nomatch z), Nat.le_refl _⟩⟩ ?_
  · have z : items.toList[i]? = some v := by rw [Array.getElem?_toList]; exact hv
    rw [hit, List.getElem?_map] at z
    obtain ⟨p, e, rfl⟩ := Option.map_eq_some_iff.mp z
    exact ⟨p, e, rfl⟩
  · rw [hz1]
    intro z
    have z1 : p.1 = s.heap.objs.size + 1 := List.mem_singleton.mp z
    have z2 := old p m
    rw [z1] at z2
    exact absurd z2 (Nat.not_lt.mpr (Nat.le_succ _))
  · intro s' L o es ep t mv S0 has
    obtain ⟨h', g2, d', tk', os'⟩ := s'
    obtain rfl : g2 = s.gens := mv.gens
    obtain rfl : d' = s.drawn := mv.drawn
    obtain rfl : os' = s.os := mv.os
    rw [size] at has
    refine ⟨rfl, h h' tk' L o es ep t S0 has fun b o e => ?_⟩
    have hb0 : b < s.heap.objs.size := Heap.lt_size e
    exact mv.heap b o (nin2 (Nat.ne_of_lt hb0) (by rw [hz1]; exact Nat.ne_of_lt (Nat.lt_succ_of_lt hb0))) (Heap.get?_push_of_some _ (Heap.get?_push_of_some _ e))
end
/-- the set of these tuples at a -/
def SetUO (P : Program) (w : World) (a : Addr) (L : List (Addr × List Key)) : HO := .ext fun h => ∃ o es ep t, SetU P w h a L o es ep t
theorem setUO_ok {P : Program} {w : World} {H : Hp} {h : Heap} {a : Addr} {L : List (Addr × List Key)} {o : Obj} {es : Array (Int × Value)} {ep : Nat} {t : SetTable} (S : SetU P w h a L o es ep t) : ObjOk P w H h a (SetUO P w a L) :=
  ⟨⟨o, es, ep, t, S⟩, ⟨o, S.obj⟩, fun h1 h2 ⟨o, es, ep, t, S⟩ k => ⟨o, es, ep, t, k o S.obj, S.exact_, S.data, S.rows, S.tab, S.once, S.led, S.room, S.few⟩⟩
theorem items_vals {P : Program} {w : World} : ∀ {k : List Key} {us : List Value}, Vals (k.map kV) us → ItemsAre (mixKind P w) k us
  | [], _, .nil => .nil
  | n :: k, _, .cons r t => .cons (relV_key r) (items_vals t)
theorem refs_vals : ∀ {ks : List (Addr × List Key)} {us : List Value}, Vals (ks.map fun p => V.ref p.1) us → us = ks.map fun p => Value.ref p.1
  | [], _, .nil => rfl
  | p :: ks, _, .cons r t => by
    cases r
    rw [refs_vals t]
    rfl
theorem vals_refs' : ∀ (ks : List (Addr × List Key)), Vals (ks.map fun p => V.ref p.1) (ks.map fun p => Value.ref p.1)
  | [] => .nil
  | p :: ks => .cons rfl (vals_refs' ks)
section
variable {X : Cx}
theorem isU_of {pins : List (Addr × Obj)} {σ : L2.St} {H : Hp} {s : Shared} {b : Addr} {k : List Key} (I : Inv X pins σ H s) (h : SqT X.K H b (k.map kV)) : IsU X.prog X.w s.heap k b := by
  obtain ⟨its, r, ⟨o, ho, hc, n, hd⟩, _⟩ := I.tuple h
  exact ⟨o, its.toArray, n, ho, hc, hd, by simpa using items_vals r⟩
/-- set(xs), xs a list of tuples of ints and texts -/
def rSetU (K : PySem.W.Frag) (P : Program) (w : World) : List V → Hp → VK → Prop := fun xs H Q => ∃ (l : Addr) (ks : List (Addr × List Key)), xs = [V.ref l] ∧ SqL K H l (ks.map fun p => V.ref p.1) ∧ (∀ p ∈ ks, SqT K H p.1 (p.2.map kV)) ∧ ks.length < 64 ∧
  ∀ a L, H a = none → (∀ p ∈ L, p ∈ ks) → (∀ p ∈ ks, p.2 ∈ L.map (·.2)) → (L.map (·.2)).Nodup → L.length ≤ ks.length → Q (.ref a) (upd H a (SetUO P w a L))
theorem cr_setU (hu : X.A.units + 3 < cLine) (hc : X.calm = true := by rfl) : CallR X (.type "set") (rSetU X.K X.prog X.w) := by
  intro pins s σ H xs us Q I r h
  obtain ⟨l, ks, rfl, hl, hk, few, q⟩ := h
  rw [Vals.ref1 r]
  obtain ⟨its, rv, pl, hz⟩ := I.list hl
  refine call_set_tuples (P := X.prog) (w := X.w) ks (I.ok.hd hc) pl.isList (by simpa using refs_vals rv) (fun p m => isU_of I (hk p m)) few hu fun h' tk L o es ep t S has k => ?_
  refine ⟨.ref s.heap.objs.size, _, I.laid (t' := tk) k (Nat.le_refl _) (setUO_ok S), rfl, q _ L (I.hok.fresh (Nat.le_refl _)) (fun p m => List.mem_of_mem_take (has.sub p m)) (fun p m => has.all p (by rw [List.take_length]; exact m)) S.once has.le⟩
end
end TW
/-! ### sorted of tuples, the empty one among them -/
namespace TW
open PySem PySem.Spec PyProof.Rows L2 PySem.W PySem.SeqAt
section
variable {prog : Program} {w : World} {A : Around} {E : Value → Shared → Prop} {s : Shared}
def nonE : PyData → Bool
  | .tuple (_ :: _) => true
  | _ => false
/-- a tuple against another as a sort of one type compares -/
theorem oneLt_tups {f : Bool} {xs ys : List PyData} {a b : Value} {as bs : List Addr} {Q : Bool → Shared → Prop} (ra : Reads s.heap a (.tuple xs) as) (rb : Reads s.heap b (.tuple ys) bs) (like : alike (.tuple xs) (.tuple ys) = true)
    (hu : A.units + min (PyData.tuple xs).depth (PyData.tuple ys).depth < cLine) (hq : Q (dataLt (.tuple xs) (.tuple ys)) s) : wpAny (model prog w) A (oneLt' f a b) Q E s := by
  cases f with
  | false => exact oneLt_alike (fun z => nomatch z) ra rb like (fun z => nomatch z) hu hq
  | true =>
    have al : alikeAll xs ys = true := by simpa [alike] using like
    cases ra with
    | @tuple l o vs n _ as₁ h1 h2 h3 h4 =>
      cases rb with
      | @tuple l' o' vs' n' _ bs₁ k1 k2 k3 k4 =>
        have n1 : vs.size = xs.length := by simpa using PySem.SeqAt.ReadsAll.length _ _ _ h4
        have n2 : vs'.size = ys.length := by simpa using PySem.SeqAt.ReadsAll.length _ _ _ k4
        rw [dataLt_tuple, ← firstLt_toks xs ys al, ← n1, ← n2] at hq
        obtain ⟨cls, dd, data, sl⟩ := o
        obtain ⟨cls2, dd2, data2, sl2⟩ := o'
        simp only at h2 h3 k2 k3
        subst h2 h3 k2 k3
        rw [oneLt'_eq]
        simp only [if_true]
        have here : A.units < cLine := by omega
        refine wpAny_bind (wpAny_cRoomFor here ?_)
        refine wpAny_bind (wpAny_callSpecialIfBound?_slot (T := "tuple") ⟨_, h1, rfl⟩ F.slot_tuple_lt (call_meets F.slot_tuple_lt ⟨_, h1, rfl⟩ F.entry_tuple_lt (F.args_tuple_lt_2 _ _) (tuple_ltAt l l' vs vs' n n' dd dd2 sl sl2 (pairEq xs ys) fun j => dataLt (xs.getD j .none) (ys.getD j .none))
          ⟨h1, k1, fun j j1 j2 => ?_, fun j j1 j2 hj => ?_, ?_⟩))
        · have := eqAt_alikeAll xs ys A.in1 s vs.toList vs'.toList _ _ h4 k4 al (SeqAt.room_in hu) j (by simpa using j1) (by simpa using j2)
          simpa using this
        · have := rcLt_alikeAll xs ys A.in1 s vs.toList vs'.toList _ _ h4 k4 al (SeqAt.room_in hu) j (by simpa using j1) (by simpa using j2) hj
          simpa using this
        · exact wpAny_truthy_bool hq
theorem firsts_of : ∀ {vs : List Value} {ds : List PyData}, EachIs (fun v d => ∃ as, Reads s.heap v d as) vs ds → (∀ d ∈ ds, ∃ xs, d = .tuple xs) → ∃ fs : List (Option Value), fs.map (·.isSome) = ds.map nonE ∧ ∀ {Q : List (Option Value) → Shared → Prop}, Q fs s → wpAny (model prog w) A (vs.mapM firstOfTuple') Q E s
  | _, _, .nil, _ => ⟨[], rfl, fun q => by rw [List.mapM_nil]; exact wpAny_pure q⟩
  | _, _, .cons (b := d) ⟨as, r⟩ t, tup => by
    obtain ⟨fs, e, go⟩ := firsts_of t fun d m => tup d (List.mem_cons_of_mem _ m)
    obtain ⟨xs, rfl⟩ := tup d List.mem_cons_self
    cases r with
    | @tuple a o vs n _ _ ho hc hd hr =>
      refine ⟨vs[0]? :: fs, ?_, fun {Q} q => ?_⟩
      · rw [List.map_cons, List.map_cons, e]
        have z : (vs[0]?).isSome = nonE (.tuple xs) := by
          rw [← Array.getElem?_toList]
          generalize vs.toList = l at hr
          cases hr <;> rfl
        rw [z]
      · rw [List.mapM_cons]
        refine wpAny_bind ?_
        rw [kas_first_eq]
        refine wpAny_bind (Looks.here (show Looks (model prog w) s.heap (typeOf (.ref a)) o.cls from (Looks.ld ho).andThen .now) ?_)
        rw [hc, if_neg (by simp)]
        exact wpAny_bind (listItems_at ho hd (wpAny_pure (wpAny_bind (go (Q := fun bs s' => wpAny (model prog w) A (pure (vs[0]? :: bs)) Q E s') (wpAny_pure q)))))
theorem kind_tups {vs : List Value} {ds : List PyData} {Q : SortKind → Shared → Prop} (e : EachIs (fun v d => ∃ as, Reads s.heap v d as) vs ds) (tup : ∀ d ∈ ds, ∃ xs, d = .tuple xs) (none_ : ds.all nonE = false)
    (q : Q (if (ds.head?.map nonE) = some true then general' else oneType') s) : wpAny (model prog w) A (keyKind' vs.toArray) Q E s := by
  obtain ⟨fs, e1, go⟩ := firsts_of (A := A) (E := E) (prog := prog) (w := w) e tup
  rw [kat_kind_eq, List.mapM_toArray, map_eq_pure_bind]
  refine wpAny_bind (wpAny_bind (go (wpAny_pure ?_)))
  have all_ : (fs.toArray.all fun x => x.isSome) = false := by
    rw [List.all_toArray, ← none_]
    have z : (fs.map (·.isSome)).all id = (ds.map nonE).all id := by rw [e1]
    rw [List.all_map, List.all_map] at z
    exact z
  rw [all_]
  simp only [Bool.false_eq_true, if_false]
  have head_ : (fs.toArray[0]?.bind id).isSome = decide ((ds.head?.map nonE) = some true) := by
    cases fs with
    | nil =>
      cases ds with
      | nil => rfl
      | cons d ds => exact nomatch e1
    | cons f fs =>
      cases ds with
      | nil => exact nomatch e1
      | cons d ds =>
        rw [List.map_cons, List.map_cons] at e1
        have z := (List.cons.inj e1).1
        show f.isSome = _
        rw [z]
        simp
  rw [head_]
  by_cases c : (ds.head?.map nonE) = some true
  · rw [if_pos c] at q
    simp only [c, decide_true, if_true]
    exact wpAny_pure q
  · rw [if_neg c] at q
    simp only [c, decide_false, Bool.false_eq_true, if_false]
    rw [oneTypeOnly'_eq, List.mapM_toArray, map_eq_pure_bind]
    have types : ∀ v ∈ vs, Looks (model prog w) s.heap (typeOf v) (.type "tuple") := fun v m => by
      obtain ⟨d, m2, as, r⟩ := e.left v m
      obtain ⟨xs, rfl⟩ := tup d m2
      exact looks_reads r
    refine wpAny_bind (wpAny_bind (wpAny_bind (kas_mapM (r := Value.type "tuple") _ (fun v m Q' q' => (types v m).here q') (wpAny_pure ?_))))
    have hall : ((List.map (fun _ => Value.type "tuple") vs).toArray.all fun x => x == Value.type "tuple") = true := by
      simp only [List.all_toArray, List.all_map, List.all_eq_true]
      intro _ _
      exact beq_self_eq_true _
    cases vs with
    | nil =>
      cases e
      exact absurd none_ (by simp)
    | cons v vs =>
      have h0 : (List.map (fun _ => Value.type "tuple") (v :: vs)).toArray[0]? = some (Value.type "tuple") := by simp
      rw [h0]
      simp only [hall, if_true]
      exact wpAny_pure (wpAny_pure q)
/-- alike tuples can be sorted -/
theorem sorts_tups {vs : List Value} {ds : List PyData} (e : EachIs (fun v d => ∃ as, Reads s.heap v d as) vs ds) (al : AllAlike ds) (tup : ∀ d ∈ ds, ∃ xs, d = .tuple xs) (hu : ∀ d, d ∈ ds → A.units + d.depth < cLine) : SortsAt prog w A s (dataKind s.heap ds) vs := by
  cases c : ds.all nonE with
  | true =>
    refine SortsAt.data e al (.inl fun d m => ?_) hu
    have z := List.all_eq_true.mp c d m
    obtain ⟨xs, rfl⟩ := tup d m
    cases xs with
    | nil => exact absurd z (by simp [nonE])
    | cons x r => exact ⟨x, r, rfl⟩
  | false =>
    refine ⟨fun v hv => ?_, if (ds.head?.map nonE) = some true then general' else oneType', ?_, fun _ E Q q => kind_tups e tup c q⟩
    · obtain ⟨d, hd, as, r⟩ := e.left v hv
      exact ⟨_, dataKind_some al hd r⟩
    · intro E x y a b Q ha hb hq
      obtain ⟨d, as, hd, ra, rfl⟩ := dataKind_inv ha
      obtain ⟨d', as', hd', rb, rfl⟩ := dataKind_inv hb
      have like := al d hd d' hd'
      have room : A.units + min d.depth d'.depth < cLine := Nat.lt_of_le_of_lt (Nat.add_le_add_left (Nat.min_le_left _ _) _) (hu d hd)
      obtain ⟨xs, rfl⟩ := tup d hd
      obtain ⟨ys, rfl⟩ := tup d' hd'
      by_cases z : (ds.head?.map nonE) = some true
      · rw [if_pos z]
        exact oneLt_tups (f := false) ra rb like room hq
      · rw [if_neg z]
        exact oneLt_tups (f := true) ra rb like room hq
end
end TW
namespace TW
open PySem PySem.Spec PyProof.Rows L2 PySem.W
def encKey : Key → PyData
  | .inl i => .int i
  | .inr x => .str x
def encT (k : List Key) : PyData := .tuple (k.map encKey)
theorem depth_keys : ∀ (k : List Key), PyData.depthAll (k.map encKey) = 0
  | [] => rfl
  | .inl i :: k => by simp [PyData.depthAll, encKey, PyData.depth, depth_keys k]
  | .inr x :: k => by simp [PyData.depthAll, encKey, PyData.depth, depth_keys k]
theorem depth_encT (k : List Key) : (encT k).depth ≤ 1 := by
  unfold encT
  simp only [PyData.depth, depth_keys k]
  omega
theorem reads_keys {P : Program} {w : World} {h : Heap} : ∀ {k : List Key} {vs : List Value}, ItemsAre (mixKind P w) k vs → ∃ as, ReadsAll h vs (k.map encKey) as
  | _, _, .nil => ⟨_, .nil⟩
  | _, _, .cons q t => by
    obtain ⟨as, r⟩ := reads_keys (h := h) t
    rcases keyIs_shape q with ⟨j, tk, rfl, rfl⟩ | ⟨x, tk, rfl, rfl⟩
    · exact ⟨_, .cons (.int _ _) r⟩
    · exact ⟨_, .cons (.str _ _) r⟩
theorem reads_tup {P : Program} {w : World} {h : Heap} {k : List Key} {a : Addr} (is_ : IsU P w h k a) : ∃ as, Reads h (.ref a) (encT k) as := by
  obtain ⟨o, its, n, e, c, d, r⟩ := is_
  obtain ⟨as, r⟩ := reads_keys (h := h) r
  exact ⟨_, .tuple e c d r⟩
section
variable {P : Program} {w : World} {A : Around} {E : Value → Shared → Prop} {s : Shared}
theorem sorted_su {a : Addr} {L : List (Addr × List Key)} {o : Obj} {es : Array (Int × Value)} {ep : Nat} {t : SetTable} {Q : Value → Shared → Prop} (S : SetU P w s.heap a L o es ep t) (tups : Tups P w s.heap L) (al : ∀ p ∈ L, ∀ q ∈ L, alike (encT p.2) (encT q.2) = true) (hh : A.handled = none) (hu : A.units + 8 < cLine)
    (hQ : ∀ s' p (out : List Value) (c : Nat) (L1 : List (Addr × List Key)), (∀ b o, s.heap.get? b = some o → s'.heap.get? b = some o) → s'.gens = s.gens → s'.os = s.os → s.heap.objs.size ≤ p → s'.heap.get? p = some (seqObj "list" out.toArray c) → L1.Perm L →
      out = (L1.mergeSort (dataLe false fun p => encT p.2)).map (fun p => Value.ref p.1) → Q (.ref p) s') : wpAny (model P w) A (call (.builtin "sorted") [.ref a]) Q E s := by
  refine Calls.call_function_entry kind_sorted plain_sorted entry_sorted (args_sorted1 _) ?_
  unfold Builtin.«sorted»
  refine wpAny_bind (m := checkCount "sorted" 1 1 _) (wpAny_pure ?_)
  have size := S.size
  have few := S.few
  refine wpAny_bind (collect_set (A := A.in1) hh ⟨o, S.obj, S.exact_.1, S.data⟩ S.fits (by unfold scanBound; omega) S.tab.ris S.led fun s1 vs k1 hz g1 o1 pm => ?_)
  have same : es.toList.map (·.2) = L.map fun p => Value.ref p.1 := by rw [S.rows, List.map_map]; rfl
  rw [same] at pm
  obtain ⟨L1, perm, rfl⟩ := perm_lift (fun p : Addr × List Key => Value.ref p.1) pm L rfl
  have len : (L1.map fun p => Value.ref p.1).length ≤ sizeLine := by rw [List.length_map, perm.length_eq, sizeLine_eq]; omega
  refine wpAny_bind (wpAny_newList ?_ len)
  generalize hvs : L1.map (fun p => Value.ref p.1) = vs at len ⊢
  have hoL : (s1.heap.push (seqObj "list" vs.toArray 0)).get? s1.heap.objs.size = some (seqObj "list" vs.toArray 0) := Heap.get?_push_size _ rfl
  have there : ∀ p ∈ L1, IsU P w (sortingHeap (s1.heap.push (seqObj "list" vs.toArray 0)) s1.heap.objs.size vs) p.2 p.1 := fun p m => by
    obtain ⟨o', its, n, e, r⟩ := tups p (perm.mem_iff.mp m)
    have e1 := k1 _ _ e
    exact ⟨o', its, n, sortingHeap_old (Nat.ne_of_lt (Heap.lt_size e1)) (Heap.get?_push_of_some _ e1), r⟩
  have er : ∀ {l : List (Addr × List Key)}, (∀ p ∈ l, p ∈ L1) → EachIs (fun u (p : Addr × List Key) => ∃ as, Reads (sortingHeap (s1.heap.push (seqObj "list" vs.toArray 0)) s1.heap.objs.size vs) u (encT p.2) as) (l.map fun p => Value.ref p.1) l := by
    intro l
    induction l with
    | nil => exact fun _ => .nil
    | cons p l ih => exact fun z => .cons (reads_tup (there p (z p List.mem_cons_self))) (ih fun q m => z q (List.mem_cons_of_mem _ m))
  have er1 := er (l := L1) fun p m => m
  rw [hvs] at er1
  have ek : ∀ l : List (Addr × List Key), EachIs (fun u (p : Addr × List Key) => u = Value.ref p.1) (l.map fun p => Value.ref p.1) l := by
    intro l
    induction l with
    | nil => exact .nil
    | cons p l ih => exact .cons rfl ih
  have ek1 := ek L1
  rw [hvs] at ek1
  have alL : AllAlike (L1.map fun p => encT p.2) := fun d m d' m' => by
    obtain ⟨p, mp, rfl⟩ := List.mem_map.mp m
    obtain ⟨q, mq, rfl⟩ := List.mem_map.mp m'
    exact al p (perm.mem_iff.mp mp) q (perm.mem_iff.mp mq)
  refine wpAny_bind (wpAny_holding (wpAny_call_entry slot_list_sort ⟨_, hoL, rfl⟩ entry_list_sort (list_sort_vals (s := { s1 with heap := s1.heap.push (seqObj "list" vs.toArray 0) }) hoL
    (sorts_tups (s := { s1 with heap := sortingHeap (s1.heap.push (seqObj "list" vs.toArray 0)) s1.heap.objs.size vs }) (each_map (R := fun v d => ∃ as, Reads (sortingHeap (s1.heap.push (seqObj "list" vs.toArray 0)) s1.heap.objs.size vs) v d as) (fun p : Addr × List Key => encT p.2) er1)
      alL (fun d m => ?_) fun d m => ?_) len ⟨_, rfl, ?_⟩) (args_list_sort _)))
  · obtain ⟨p, _, rfl⟩ := List.mem_map.mp m
    exact ⟨_, rfl⟩
  · obtain ⟨p, _, rfl⟩ := List.mem_map.mp m
    have z := depth_encT p.2
    have z2 : A.in1.in1.units = A.units + 2 := by simp [Around.in1]
    omega
  · obtain ⟨c, hc⟩ := sortedHeap_at (vs := vs) (out := (sortVals (dataKind (sortingHeap (s1.heap.push (seqObj "list" vs.toArray 0)) s1.heap.objs.size vs) (L1.map fun p => encT p.2)) false vs vs).toArray) hoL
    have out_is : ∀ {us : List Value} {l : List (Addr × List Key)}, EachIs (fun u (p : Addr × List Key) => u = Value.ref p.1) us l → us = l.map fun p => Value.ref p.1 := by
      intro us l z
      induction z with
      | nil => rfl
      | cons h _ ih => rw [h, ih]; rfl
    refine wpAny_pure ⟨_, rfl, hQ _ s1.heap.objs.size _ c L1 (fun b u e => ?_) g1 o1 hz hc perm (out_is (sortVals_data (enc := fun p : Addr × List Key => encT p.2) false ek1 er1 alL))⟩
    have q := k1 b u e
    show (sortedHeap (s1.heap.push (seqObj "list" vs.toArray 0)) s1.heap.objs.size vs _).get? b = some u
    rw [sortedHeap_old (Nat.ne_of_lt (Heap.lt_size q)) (by rw [size_push']; exact Nat.lt_succ_of_lt (Heap.lt_size q))]
    exact Heap.get?_push_of_some _ q
end
section
variable {X : Cx}
/-- sorted(s), s a set of tuples that can be compared -/
def rSortedU (K : PySem.W.Frag) (P : Program) (w : World) : List V → Hp → VK → Prop := fun vs H Q => ∃ (a : Addr) (L : List (Addr × List Key)), vs = [V.ref a] ∧ H a = some (SetUO P w a L) ∧ (∀ p ∈ L, SqT K H p.1 (p.2.map kV)) ∧ (∀ p ∈ L, ∀ q ∈ L, alike (encT p.2) (encT q.2) = true) ∧
  ∀ (L1 : List (Addr × List Key)) (p : Addr), L1.Perm L → H p = none → Q (.ref p) (upd H p (.lst ((L1.mergeSort (dataLe false fun p => encT p.2)).map fun q => V.ref q.1)))
theorem cr_sortedU (hu : X.A.units + 8 < cLine) (hc : X.calm = true := by rfl) : CallR X (.builtin "sorted") (rSortedU X.K X.prog X.w) := by
  intro pins s σ H vs us Q I r h
  obtain ⟨a, L, rfl, ha, hk, al, q⟩ := h
  obtain ⟨o, es, ep, t, S⟩ := (I.hok a _ ha).1
  rw [Vals.ref1 r]
  refine sorted_su S (fun p m => isU_of I (hk p m)) al (I.ok.hd hc) hu fun s' p out c L1 k1 g1 o1 hp hc perm e => ?_
  have few := S.few
  have len : ((L1.mergeSort (dataLe false fun p : Addr × List Key => encT p.2)).map fun q => V.ref q.1).length ≤ sizeLine := by rw [List.length_map, List.length_mergeSort, perm.length_eq, sizeLine_eq]; omega
  obtain ⟨I2, hn⟩ := laid_new I (o := .lst ((L1.mergeSort (dataLe false fun p : Addr × List Key => encT p.2)).map fun q => V.ref q.1)) k1 g1 o1 hp ⟨len, out, c, by rw [e]; exact vals_refs' _, hc⟩
  exact ⟨.ref p, _, I2, rfl, q L1 p perm hn⟩
end
end TW
set_option Elab.async false
set_option linter.all false
set_option maxRecDepth 100000
set_option maxHeartbeats 8000000
/-! sorted tuples of any kind, list(text), dicts of told values compared, repr of truth values -/
namespace TW
open PySem PySem.Spec PyProof.Rows L2 RZ StX PySem.W
open Evl (Ex)
/-! ### sorted(v), v of tuples, the empty one among them -/
section
variable {prog : Program} {w : World} {A : Around} {E : Value → Shared → Prop} {s : Shared} {β : Type} {vs : List Value} {bs : List β} {enc : β → PyData} {R : Value → β → Prop}
theorem each_copy {l : Addr} (er : EachIs (fun v b => ∃ as, Reads s.heap v (enc b) as) vs bs) : EachIs (fun v b => ∃ as, Reads (sortingHeap (copyHeap s.heap vs) (s.heap.objs.size + 1) vs) v (enc b) as) vs bs :=
  er.mono fun _ _ ⟨as, r⟩ => ⟨as, PyProof.Rows.Reads.keeps (fun _ _ => sorting_copy_old) r⟩
theorem sorted_any {l : Addr} {Q : Value → Shared → Prop} (hl : s.heap.IsList l vs.toArray ∨ s.heap.IsTuple l vs.toArray) (e : EachIs R vs bs) (er : EachIs (fun v b => ∃ as, Reads s.heap v (enc b) as) vs bs) (like : AllAlike (bs.map enc)) (tup : ∀ d ∈ bs.map enc, ∃ xs, d = .tuple xs) (few : bs.length ≤ sizeLine)
    (room : ∀ b, b ∈ bs → A.units + 2 + (enc b).depth < cLine) (q : ∀ out, out.length = bs.length → EachIs R out (bs.mergeSort (dataLe false enc)) → Q (.ref (s.heap.objs.size + 1)) { s with heap := sortedAll s.heap vs (List.toArray out) }) :
    wpAny (model prog w) A (call (.builtin "sorted") [.ref l]) Q E s := by
  have er' := each_copy (l := l) er
  have few' : vs.length ≤ sizeLine := by rw [e.length]; exact few
  have fin := q _ (by rw [sortVals_length false rfl]; exact e.length) (sortVals_data false e er' like)
  have S : ∀ {A' : Around}, (∀ b, b ∈ bs → A'.units + (enc b).depth < cLine) → SortsAt prog w A' { s with heap := sortingHeap (copyHeap s.heap vs) (s.heap.objs.size + 1) vs } (dataKind (sortingHeap (copyHeap s.heap vs) (s.heap.objs.size + 1) vs) (bs.map enc)) vs := fun {A'} hu =>
    sorts_tups (s := { s with heap := sortingHeap (copyHeap s.heap vs) (s.heap.objs.size + 1) vs }) (each_map (R := fun v d => ∃ as, Reads (sortingHeap (copyHeap s.heap vs) (s.heap.objs.size + 1) vs) v d as) enc er') like tup (bound_map hu)
  rcases hl with hl | hl
  · exact sorted_vals hl (S fun b hb => room b hb) few' fin
  · exact sorted_tupV hl few' fun E' => list_sort_vals (s := { s with heap := copyHeap s.heap vs }) (copyHeap_at s.heap vs) (S fun b hb => room b hb) few' ⟨rfl, fin⟩
end
structure rSortedE (K : PySem.W.Frag) (vs : List V) (H : Hp) (Q : VK) : Prop where
  r : ∃ (β : Type) (enc : β → PyData) (bs : List β) (a : Addr) (xs : List V) (F : Hp), vs = [.ref a] ∧ Sees F H ∧ (SqL K H a xs ∨ SqT K H a xs) ∧ DpAll K F xs (bs.map enc) ∧ AllAlike (bs.map enc) ∧ (∀ d ∈ bs.map enc, ∃ xs, d = .tuple xs) ∧
    (∀ b ∈ bs, (enc b).depth ≤ 8) ∧ ∀ (ys : List V) p, DpAll K F ys ((bs.mergeSort (dataLe false enc)).map enc) → H p = none → Q (.ref p) (upd H p (.lst ys))
section
variable {X : Cx}
theorem cr_sortedE (K : PySem.W.Frag) (hu : X.A.units + 16 < cLine) (hK : X.K = K := by rfl) : CallR X (.builtin "sorted") (rSortedE K) := by
  subst hK
  rintro pins s σ H vs us Q I r ⟨β, enc, bs, a, xs, F, rfl, see, at_a, told, like, tup, deep, q⟩
  rw [Vals.ref1 r]
  obtain ⟨its, rv, pl, hz⟩ : ∃ its : List Value, Vals xs its ∧ (s.heap.IsList a its.toArray ∨ s.heap.IsTuple a its.toArray) ∧ xs.length ≤ sizeLine := by
    rcases at_a with h | h
    · obtain ⟨its, rv, pl, hz⟩ := I.list h
      exact ⟨its, rv, .inl pl.isList, hz⟩
    · obtain ⟨its, rv, pl, hz⟩ := I.tuple h
      exact ⟨its, rv, .inr pl, hz⟩
  have e1 : EachIs (fun u b => ∃ v, L2.RelV v u ∧ Dp X.K F v (enc b)) its bs := each_dp told rv
  have e2 : EachIs (fun v b => ∃ as, Reads s.heap v (enc b) as) its bs := e1.mono fun u b ⟨v, r, d⟩ => Dp.reads I (enc b) v u (Dp.sees see d) r
  refine sorted_any pl e1 e2 like tup (by rw [← e1.length, ← rv.length]; exact hz) (fun b hb => by have := deep b hb; omega) fun out ho he => ?_
  obtain ⟨ys, hv, hy⟩ := dpAll_map he
  obtain ⟨ep, he'⟩ := PyProof.Rows.sortedAll_at s.heap its out.toArray
  have hlen : ys.length ≤ sizeLine := by rw [hv.length, ho, ← e1.length, ← rv.length]; exact hz
  exact ⟨.ref _, upd H (s.heap.objs.size + 1) (.lst ys), I.laid (t' := s.toks) (fun _ _ => PyProof.Rows.sortedAll_old) (Nat.le_succ _) ⟨hlen, out, ep, hv, he'⟩, rfl, q ys _ hy (I.hok.fresh (Nat.le_succ _))⟩
theorem op_catAK (K : PySem.W.Frag) (hK : X.K = K := by rfl) : OpR X (binaryOp .Add) (rCatA K) := by
  subst hK
  exact op_catA
end
/-! ### two dicts with told values -/
section
variable {X : Cx} {pins : List (Addr × Obj)} {σ : L2.St} {H : Hp} {s : Shared}
/-- alike under each key -/
def AlikeD (K : PySem.W.Frag) (H : Hp) (ks ls : List (Key × V)) : Prop := ∀ p ∈ ks, ∃ u d, valV ls p.1 = some u ∧ Dp K H p.2 d ∧ Dp K H u d ∧ SeqAt.shaped d = true ∧ PyData.eqv d d = true
theorem alike_hits (I : Inv X pins σ H s) {A : Around} (room : A.in1.units + 64 < cLine) {ls : List (Key × V)} {vb : List (Key × Value)} (rb : KV ls vb) {ks : List (Key × V)} {va : List (Key × Value)} (ra : KV ks va) : AlikeD X.K H ks ls → KeqHits A.in1 s vb va true := by
  unfold KV at ra
  induction ra with
  | nil => exact fun _ => .nil
  | @cons p q ps qs both _ more =>
    intro each
    obtain ⟨u, d, is_u, d1, d2, sh, same⟩ := each p List.mem_cons_self
    have rr : RelO (some u) (valueAt vb p.1) := by rw [← is_u]; exact rb.val p.1
    obtain ⟨y, is_y, ry⟩ := rr.some_of
    obtain ⟨key, v⟩ := q
    obtain ⟨e1, e2⟩ := both
    have e1' : p.1 = key := e1
    rw [e1'] at is_y
    obtain ⟨as, r1⟩ := Dp.reads I d _ _ d1 e2
    obtain ⟨bs, r2⟩ := Dp.reads I d _ _ d2 ry
    have at_ := PySem.W.keq_at (A := A) r1 r2 sh sh room
    rw [same] at at_
    exact .hit is_y at_ (more fun p' m => each p' (List.mem_cons_of_mem _ m))
structure rDicU (K : PySem.W.Frag) (out : Bool) (x y : V) (H : Hp) (Q : VK) : Prop where
  r : ∃ a b ks ls, x = .ref a ∧ y = .ref b ∧ H a = some (.dK ks) ∧ H b = some (.dK ls) ∧ ks.length = ls.length ∧ AlikeD K H ks ls ∧ Q (.bl out) H
theorem op_eqU (K : PySem.W.Frag) (hu : X.A.units + 65 < cLine) (hK : X.K = K := by rfl) : OpR X (compareOp .Eq) (rDicU K true) := by
  subst hK
  rintro pins s σ H x y v u Q I rx ry ⟨a, b, ks, ls, rfl, rfl, ea, eb, few, each, q⟩
  cases (show v = Value.ref a from rx)
  cases (show u = Value.ref b from ry)
  obtain ⟨_, ya, va, ra, da⟩ := (show ObjOk X.prog X.w H s.heap a (.dK ks) from I.hok a _ ea)
  obtain ⟨_, yb, vb, rb, db⟩ := (show ObjOk X.prog X.w H s.heap b (.dK ls) from I.hok b _ eb)
  have hl : va.length = vb.length := by rw [← ra.length, ← rb.length]; exact few
  exact PySem.W.keq_eq (knd := mixKind X.prog X.w) (r := true) ya yb da db (by omega) (fun _ => alike_hits I (by show X.A.units + 1 + 64 < cLine; omega) rb ra each) (fin_bl I q (by simp [hl]))
theorem op_neU (K : PySem.W.Frag) (hu : X.A.units + 65 < cLine) (hK : X.K = K := by rfl) : OpR X (compareOp .NotEq) (rDicU K false) := by
  subst hK
  rintro pins s σ H x y v u Q I rx ry ⟨a, b, ks, ls, rfl, rfl, ea, eb, few, each, q⟩
  cases (show v = Value.ref a from rx)
  cases (show u = Value.ref b from ry)
  obtain ⟨_, ya, va, ra, da⟩ := (show ObjOk X.prog X.w H s.heap a (.dK ks) from I.hok a _ ea)
  obtain ⟨_, yb, vb, rb, db⟩ := (show ObjOk X.prog X.w H s.heap b (.dK ls) from I.hok b _ eb)
  have hl : va.length = vb.length := by rw [← ra.length, ← rb.length]; exact few
  exact PySem.W.keq_ne (knd := mixKind X.prog X.w) (r := true) ya yb da db (by omega) (fun _ => alike_hits I (by show X.A.units + 1 + 64 < cLine; omega) rb ra each) (fin_bl I q (by simp [hl]))
end
/-! ### repr(b) -/
section
variable {X : Cx}
structure rReprB (xs : List V) (H : Hp) (Q : VK) : Prop where
  r : ∃ b : Bool, xs = [.bl b] ∧ Q (.str (if b then "True" else "False")) H
theorem cr_reprB : CallR X (.builtin "repr") rReprB := by
  rintro pins s σ H xs us Q I r ⟨b, rfl, q⟩
  obtain ⟨u, rfl, ru⟩ := vals1 r
  cases (show u = Value.bool b from ru)
  exact PySem.P.repr_of_bool ⟨.str (if b then "True" else "False"), H, I.tok _, ⟨_, rfl⟩, q⟩
end
/-! ### list(x), x a text -/
section
variable {prog : Program} {w : World} {A : Around} {E : Value → Shared → Prop} {s : Shared} {x : Str} {t : Tok}
theorem no_hint {Q : Bool → Shared → Prop} (q : Q false s) : wpAny (model prog w) A (Builtin.List.listLengthHint (.str x t)) Q E s := by
  have is_str : s.TypeIs (.str x t) "str" := typeIs_str s x t
  unfold Builtin.List.listLengthHint
  refine wpAny_bind (wpAny_specialOf is_str PySem.F.slot_str_len.lookup ?_)
  generalize hid : ("str.__len__" : String) = id0
  wp_delta
  rw [show splitId id0 = some ("str", "__len__") from by subst hid; decide +kernel]
  subst hid
  refine wpAny_bind (wpAny_isInstance (T := "str") (b := true) is_str (by rw [isSubtype_type]; kernel_rfl) ?_)
  refine wpAny_ite_split (fun z => absurd z (by decide)) (fun _ => ?_)
  refine wpAny_ite_split (fun _ => ?_) (fun z => absurd (by decide +kernel) z)
  exact wpAny_bind (wpAny_typeOf is_str (wpAny_pure q))
theorem extend_signs {R : Result → Shared → Prop} (hh : A.handled = none) {S : Addr} {c₀ : Nat} (at_S : s.heap.get? S = some { cls := .type "list", data := .seq #[] c₀ }) (few : x.cps.size ≤ sizeLine)
    (q : ∀ h' tk acc c, (∀ b o, b ≠ S → s.heap.get? b = some o → h'.get? b = some o) → h'.get? S = some { cls := .type "list", dict := none, data := .seq acc c, slots := #[] } → ItemsOf (SignAt x) acc x.cps.size → R (.ok (.ret .none)) { s with heap := h', toks := tk }) :
    wpAny (model prog w) A.in1 (Builtin.List.listExtendWith (.ref S) (.str x t) .none)
      (fun fin s' => match fin with | .done f => R (.ok f) s' | .again c' => c'.quiet = true ∧ codeAny (model prog w) A c' R s') (fun e s' => R (.error e) s') s := by
  have lt := Heap.lt_size at_S
  have apart : S ∉ [s.heap.objs.size] := fun m => absurd (List.mem_singleton.mp m) (Nat.ne_of_lt lt)
  unfold Builtin.List.listExtendWith
  refine wpAny_bind (wpAny_typeOf (T := "str") (v := .str x t) (typeIs_str s x t) ?_)
  have n1 : Builtin.List.listSameRef (.ref S) (.str x t) = false := rfl
  have n2 : (Value.type "str" == Value.type "list") = false := by decide
  have n3 : (Value.type "str" == Value.type "tuple") = false := by decide
  simp only [n1, n2, n3, Bool.or_false, Bool.false_eq_true, if_false]
  refine wpAny_bind (wpAny_pyIter_str fun o St W st => ?_)
  refine wpAny_bind (wpAny_holding (no_hint ?_))
  rw [if_neg (by first | decide | decide +kernel)]
  refine wpAny_pure ⟨plainId_quiet PySem.F.plain_extend_loop _, codeAny_extend_loopS (W A.in1 hh).toS few _ apart _ x.cps.size 0 _ _ _ rfl (Nat.zero_le _) st (Heap.get?_push_of_some _ at_S) (ItemsOf.nil _) fun s' acc c moved at_S' are => ?_⟩
  rw [Moved.eq_with moved]
  refine q s'.heap s'.toks acc c (fun b ob n e => moved.heap b ob (fun m => ?_) (Heap.get?_push_of_some _ e)) at_S' are
  rcases List.mem_cons.mp m with z | m
  · exact n z
  · have lt2 := Heap.lt_size e
    rw [List.mem_singleton.mp m] at lt2
    exact absurd lt2 (Nat.lt_irrefl _)
theorem init_signs {R : Result → Shared → Prop} (hh : A.handled = none) {S : Addr} (at_S : s.heap.get? S = some { cls := .type "list", data := .seq #[] }) (few : x.cps.size ≤ sizeLine)
    (q : ∀ h' tk acc c, (∀ b o, b ≠ S → s.heap.get? b = some o → h'.get? b = some o) → h'.get? S = some { cls := .type "list", dict := none, data := .seq acc c, slots := #[] } → ItemsOf (SignAt x) acc x.cps.size → R (.ok (.ret .none)) { s with heap := h', toks := tk }) :
    wpAny (model prog w) A.in1 (Builtin.«list.__init__» ⟨[.ref S, .str x t], []⟩)
      (fun fin s' => match fin with | .done f => R (.ok f) s' | .again c' => c'.quiet = true ∧ codeAny (model prog w) A c' R s') (fun e s' => R (.error e) s') s := by
  show wpAny _ _ (Builtin.List.listItems (.ref S) >>= fun old => Builtin.List.listUpdate (.ref S) (fun _ => #[]) >>= fun _ => letGo old.toList.reverse >>= fun _ => Builtin.List.listExtendWith (.ref S) (.str x t) .none) _ _ s
  refine wpAny_bind (m := Builtin.List.listItems (.ref S)) ?_
  unfold Builtin.List.listItems
  refine wpAny_bind (wpAny_seqItems at_S rfl (wpAny_pure ?_))
  show wpAny _ A.in1 (updateSeq S (fun _ => #[]) >>= fun _ => letGo (#[] : Array Value).toList.reverse >>= fun _ => Builtin.List.listExtendWith (.ref S) (.str x t) .none) _ _ s
  refine wpAny_bind (wpAny_updateSeq at_S rfl (wpAny_bind (wpAny_letGo ?_)))
  have same : ∀ b o, b ≠ S → s.heap.get? b = some o → (s.heap.update S (Obj.mapSeq (fun _ => (#[] : Array Value)))).get? b = some o := fun b o n e => (Heap.get?_update_other _ _ (Ne.symm n)).trans e
  exact extend_signs hh (Heap.get?_update_self (Obj.mapSeq (fun _ => (#[] : Array Value))) at_S rfl) few fun h' tk acc c k e is_ => q h' tk acc c (fun b o n e' => k b o n (same b o n e')) e is_
theorem call_list_signs {Q : Value → Shared → Prop} (hh : A.handled = none) (few : x.cps.size ≤ sizeLine)
    (q : ∀ h' tk acc c, (∀ b o, s.heap.get? b = some o → h'.get? b = some o) → h'.get? s.heap.objs.size = some { cls := .type "list", dict := none, data := .seq acc c, slots := #[] } → ItemsOf (SignAt x) acc x.cps.size → Q (.ref s.heap.objs.size) { s with heap := h', toks := tk }) :
    wpAny (model prog w) A (call (.type "list") [.str x t]) Q E s := by
  refine callType_codes (Q₁ := fun obj s₁ => obj = .ref s.heap.objs.size ∧ s₁ = { s with heap := s.heap.push { cls := .type "list", data := .seq #[] } }) PySem.F.called_list (PySem.F.typeCall_list_1 _) PySem.F.entry_list_init (code_list_new _ ⟨rfl, rfl⟩) fun obj s₁ z => ?_
  obtain ⟨rfl, rfl⟩ := z
  have at_S : (s.heap.push { cls := .type "list", data := .seq #[] }).get? s.heap.objs.size = some { cls := .type "list", data := .seq #[] } := Heap.get?_push_size _ rfl
  exact ⟨⟨_, at_S, rfl⟩, PySem.F.args_list_init_2 _ _, init_signs (A := A.in1) hh at_S few fun h' tk acc c k e is_ => ⟨rfl, q h' tk acc c (fun b o e' => k b o (Nat.ne_of_lt (Heap.lt_size e')) (Heap.get?_push_of_some _ e')) e is_⟩⟩
end
/-- its signs -/
def signs (x : Str) : List Str := x.cps.toList.map fun c => ⟨#[c]⟩
structure rListS (xs : List V) (H : Hp) (Q : VK) : Prop where
  r : ∃ x : Str, xs = [.str x] ∧ x.cps.size ≤ sizeLine ∧ ∀ q, H q = none → Q (.ref q) (upd H q (.lst ((signs x).map V.str)))
theorem cr_listS {X : Cx} (hc : X.calm = true := by rfl) : CallR X (.type "list") rListS := by
  rintro pins s σ H xs us Q I r ⟨x, rfl, few, q⟩
  obtain ⟨u, rfl, t, rfl⟩ := vals1 r
  refine call_list_signs (I.ok.hd hc) few fun h' tk acc c k e is_ => ?_
  have len : (signs x).length = x.cps.size := by simp [signs]
  refine ⟨.ref s.heap.objs.size, upd H s.heap.objs.size (.lst ((signs x).map V.str)), I.laid k (Nat.le_refl _) ⟨by rw [List.length_map, len]; exact few, acc.toList, c, ?_, by rw [Array.toArray_toList]; exact e⟩, rfl, q _ (I.hok.fresh (Nat.le_refl _))⟩
  refine vals_of_idx _ _ (by rw [List.length_map, len, Array.length_toList]; exact is_.1) fun j u at_j => ?_
  obtain ⟨c, t', at_c, rfl⟩ := is_.2 j u (by rw [← Array.getElem?_toList]; exact at_j)
  exact ⟨.str ⟨#[c]⟩, by simp [signs, at_c], ⟨_, rfl⟩⟩
end TW
set_option Elab.async false
set_option linter.all false
set_option maxRecDepth 100000
set_option maxHeartbeats 4000000
/-! dict(list of pairs whose keys are tuples) -/
namespace TW
open PySem PySem.Spec PyProof.Rows L2 RZ StX
open Evl (Ex)
def mergeT (kvs more : List (List Key × V)) : List (List Key × V) := more.foldl (fun acc kv => putK acc kv.1 kv.2) kvs
theorem mergeT_snoc (kvs more : List (List Key × V)) (p : List Key × V) : mergeT kvs (more ++ [p]) = putK (mergeT kvs more) p.1 p.2 := by
  unfold mergeT
  rw [List.foldl_append]
  rfl
theorem length_mergeT : ∀ (more kvs : List (List Key × V)), (mergeT kvs more).length ≤ kvs.length + more.length
  | [], kvs => by show kvs.length ≤ kvs.length + 0; omega
  | p :: r, kvs => by
    have h1 := length_mergeT r (putK kvs p.1 p.2)
    have h2 := length_putK kvs p.1 p.2
    show (mergeT (putK kvs p.1 p.2) r).length ≤ kvs.length + (r.length + 1)
    omega
structure rDictPT (K : PySem.W.Frag) (xs : List V) (H : Hp) (Q : VK) : Prop where
  r : ∃ (a : Addr) (rows : List (Addr × Addr × List Key × V)), xs = [.ref a] ∧ SqL K H a (rows.map fun r => .ref r.1) ∧ (∀ r ∈ rows, SqT K H r.1 [.ref r.2.1, r.2.2.2] ∧ H r.2.1 = some (.tup (r.2.2.1.map kV))) ∧
    ∀ p, H p = none → Q (.ref p) (upd H p (.dT (mergeT [] (rows.map fun r => (r.2.2.1, r.2.2.2)))))
section
variable {X : Cx}
theorem kt_merge {H : Hp} : ∀ {rows : List (Addr × Addr × List Key × V)} {ps : List (List Key × Addr × Value)} {kvs : List (List Key × V)} {xs : List (List Key × Addr × Value)}, Paired (fun r p => r.2.2.1 = p.1 ∧ r.2.1 = p.2.1 ∧ RelV r.2.2.2 p.2.2 ∧ H r.2.1 = some (.tup (r.2.2.1.map kV))) rows ps → KT H kvs xs →
    KT H (mergeT kvs (rows.map fun r => (r.2.2.1, r.2.2.2))) (storedAllH xs ps)
  | _, _, _, _, .nil, r => r
  | _, _, kvs, xs, .cons (a := r) (b := p) h t, rr => by
    obtain ⟨e1, e2, e3, e4⟩ := h
    have z := KT.put rr r.2.2.1 e4 e3
    have z2 := kt_merge t z
    rw [e2] at z2
    show KT H (mergeT (putK kvs r.2.2.1 r.2.2.2) _) (storedAllH (storedH xs p.1 p.2.1 p.2.2) _)
    rw [← e1]
    exact z2
theorem rows_of {pins : List (Addr × Obj)} {σ : L2.St} {H : Hp} {s : Shared} (I : Inv X pins σ H s) : ∀ {rows : List (Addr × Addr × List Key × V)}, (∀ r ∈ rows, SqT X.K H r.1 [.ref r.2.1, r.2.2.2] ∧ H r.2.1 = some (.tup (r.2.2.1.map kV))) →
    ∃ ps : List (List Key × Addr × Value), Paired (fun r p => r.2.2.1 = p.1 ∧ r.2.1 = p.2.1 ∧ RelV r.2.2.2 p.2.2 ∧ H r.2.1 = some (.tup (r.2.2.1.map kV))) rows ps ∧ ∀ (j : Nat) (q : List Key × Addr × Value), ps[j]? = some q → ∃ r, rows[j]? = some r ∧ IsTup s.heap r.1 #[.ref q.2.1, q.2.2]
  | [], _ => ⟨[], .nil, fun j q e => by simp at e⟩
  | r :: rows, h => by
    obtain ⟨ps, p1, p2⟩ := rows_of I (rows := rows) fun r' hr' => h r' (List.mem_cons_of_mem _ hr')
    obtain ⟨h1, h2⟩ := h r List.mem_cons_self
    obtain ⟨its, rv, ht, _⟩ := I.tuple h1
    obtain ⟨u, y, ei, ru, ry⟩ := vals2 rv
    subst ei
    obtain rfl : u = Value.ref r.2.1 := ru
    refine ⟨(r.2.2.1, r.2.1, y) :: ps, .cons ⟨rfl, rfl, ry, h2⟩ p1, fun j q e => ?_⟩
    cases j with
    | zero =>
      cases Option.some.inj e
      exact ⟨r, rfl, ht⟩
    | succ j =>
      obtain ⟨r', e1, e2⟩ := p2 j q (by simpa using e)
      exact ⟨r', by simpa using e1, e2⟩
theorem refs_at1 {α : Type} {g : α → Addr} : ∀ {ps : List α} {us : List Value}, Vals (ps.map fun r => V.ref (g r)) us → us = ps.map fun r => Value.ref (g r)
  | [], us, r => by
    rw [List.map_nil] at r
    cases r
    rfl
  | p :: ps, us, r => by
    rw [List.map_cons] at r
    cases r with
    | cons h t =>
      cases h
      rw [List.map_cons, ← refs_at1 t]
theorem cr_dictPT (K : PySem.W.Frag) (hcalm : X.calm = true) (hu : X.A.units + 8 < cLine) (hK : X.K = K := by rfl) : CallR X (.type "dict") (rDictPT K) := by
  subst hK
  intro pins s σ H xs us Q I r q
  obtain ⟨a, rows, ex, hq, hp, qq⟩ := q.r
  subst ex
  obtain ⟨u, eu, rx⟩ := vals1 r
  subst eu
  cases rx
  obtain ⟨its, rv, pl, hz⟩ := I.list hq
  have ei := refs_at1 (g := fun r : Addr × Addr × List Key × V => r.1) rv
  subst ei
  rw [List.length_map] at hz
  obtain ⟨ps, rel, hpr⟩ := rows_of I hp
  have hl := rel.length
  obtain ⟨o, n, ho, hc, hd, hdat⟩ := pl
  have PA := PairArg.list (prog := X.prog) (w := X.w) a (rows.map fun r => Value.ref r.1).toArray (fun j => ((rows[j]?).map (·.1)).getD 0) (ps.map fun p => (Value.ref p.2.1, p.2.2))
  refine PySem.call_dict_pairsH (knd := tupleKind (mixKind X.prog X.w)) (ps := ps) PA (I.ok.hd hcalm) (tupleKind_room_in1 ?_) ⟨⟨o, n, ho, hc, hd, hdat⟩, ?_, fun j k v hj => ?_⟩ ⟨by simp, fun i key v h => ?_⟩ ?_ ?_ fun h' tk hd' k => ?_
  · show X.A.units + 1 + 1 < cLine
    omega
  · simp [hl]
  · rw [List.getElem?_map] at hj
    obtain ⟨p, hp1, hp2⟩ := Option.map_eq_some_iff.mp hj
    cases hp2
    obtain ⟨r, e1, e2⟩ := hpr j p hp1
    refine ⟨by simp [e1], .inl ?_⟩
    show s.heap.IsTuple (((rows[j]?).map (·.1)).getD 0) _
    rw [e1]
    exact e2
  · have h : (ps.map fun p => (Value.ref p.2.1, p.2.2))[i]? = some (key, v) := h
    rw [List.getElem?_map] at h
    obtain ⟨p, hp1, hp2⟩ := Option.map_eq_some_iff.mp h
    cases hp2
    exact ⟨p.1, p.2.1, hp1, rfl⟩
  · intro h' hk x hx
    obtain ⟨r, hr⟩ := PySem.Paired.right rel x hx
    obtain ⟨e1, e2, e3, e4⟩ := hr
    have z := key_of (P := X.prog) (w := X.w) I.hok e4
    rw [e1, e2] at z
    obtain ⟨o', its', n', h1, h2, h3, h4⟩ := z
    exact ⟨o', its', n', hk _ _ (Nat.ne_of_lt (Heap.lt_size h1)) (by simp) h1, h2, h3, h4⟩
  · simpa [← hl] using hz
  · have hm : (s.heap.objs.size == sysModules) = false := beq_eq_false_iff_ne.mpr (Nat.ne_of_gt I.big)
    have hlen : (mergeT [] (rows.map fun r => (r.2.2.1, r.2.2.2))).length ≤ sizeLine := by
      refine Nat.le_trans (length_mergeT _ _) ?_
      simpa using hz
    obtain ⟨ob, es, ep, g1, g2, g3, g4, _, g5⟩ := hd'
    have hkt : KT (upd H s.heap.objs.size (.dT (mergeT [] (rows.map fun r => (r.2.2.1, r.2.2.2))))) (mergeT [] (rows.map fun r => (r.2.2.1, r.2.2.2))) (storedAllH [] ps) := (kt_merge rel .nil).keeps fun b ys hb => by
      rw [upd_ne (ne_of_none hb (I.hok.fresh (Nat.le_refl _)))]
      exact hb
    exact ⟨.ref s.heap.objs.size, upd H s.heap.objs.size (.dT (mergeT [] (rows.map fun r => (r.2.2.1, r.2.2.2)))), I.laid (t' := tk) (fun b o e => k b o (by simp) e) (Nat.le_refl _) (show ObjOk X.prog X.w _ _ _ (.dT _) from ⟨hlen, hm, storedAllH [] ps, hkt, ob, es, ep, g1, g2, g3, g4, g5⟩), rfl, qq _ (I.hok.fresh (Nat.le_refl _))⟩
end
end TW
set_option Elab.async false
set_option linter.all false
set_option maxRecDepth 100000
set_option maxHeartbeats 4000000
/-! for k, v in d.items(), the keys of d being tuples -/
namespace TW
open PySem PySem.Spec PyProof.Rows L2
open Evl (Ex)
section
variable {X : Cx} {pins : List (Addr × Obj)} {σ : L2.St} {H : Hp} {s : Shared} {d : Addr} {od : Obj} {kvs : List (List Key × V)}
/-- a locked dict of tuple keys: its entries, with their values -/
theorem lockedT (I : Inv X pins σ H s) (h : H d = some (.frz od (.dT kvs))) :
    (d == sysModules) = false ∧ s.heap.get? d = some od ∧ od.ExactDict ∧ ∃ (es : Array DictEntry) (ep : Nat), od.data = .dict es ep ∧ es.size = kvs.length ∧
      ∀ (i : Nat) (k : List Key) (v : V), kvs[i]? = some (k, v) → ∃ (en : DictEntry) (q : Addr), es[i]? = some en ∧ en.key = .ref q ∧ H q = some (.tup (k.map kV)) ∧ RelV v en.val := by
  obtain ⟨d_at, _, no_sys, rows, par, o2, es, ep, o2_at, exact_, is_dict, listed, _⟩ := I.hok d _ h
  obtain rfl : od = o2 := Option.some.inj (d_at.symm.trans o2_at)
  refine ⟨no_sys, d_at, exact_, es, ep, is_dict, (size_of_entries listed).trans (Paired.length par).symm, fun i k v at_i => ?_⟩
  obtain ⟨row, row_at, _, key_at, val_at⟩ := paired_get par at_i
  exact ⟨_, row.2.1, by simpa [row_at] using entry_at listed i, rfl, key_at, val_at⟩
end
/-- the pairs (key's own tuple, value), each a new tuple -/
def Itit (d : Addr) (od : Obj) (kvs : List (List Key × V)) : It :=
  ⟨fun i H => H d = some (.frz od (.dT kvs)) ∧ i < kvs.length,
   fun i H x H' => ∃ (T q : Addr) (ks : List Key) (v : V), kvs[i]? = some (ks, v) ∧ x = .ref T ∧ H q = some (.tup (ks.map kV)) ∧ H T = none ∧ H' = upd H T (.tup [.ref q, v]),
   fun i H => H d = some (.frz od (.dT kvs)) ∧ kvs.length ≤ i⟩
section
variable {P : Program} {w : World} {K : PySem.W.Frag} {d : Addr} {od : Obj} {es : Array DictEntry} {ep : Nat} {kvs : List (List Key × V)}
theorem turnT {elts : List Expr} {kk : Nat} {tpos : Pos} (it : Addr) (is_dict : od.data = .dict es ep) :
    Turn P w K (.Tuple elts kk tpos) (Itit d od kvs) [it] it (fun i h => ∃ ok ov, IsItemIter h it d i kvs.length ep ok ov) where
  mem := List.mem_singleton.mpr rfl
  obj := fun i h ⟨ok, ov, at_it⟩ b hb => by
    cases List.mem_singleton.mp hb
    exact ⟨_, at_it, fun v z => nomatch z⟩
  keep := fun i h h' ⟨ok, ov, at_it⟩ stays => ⟨ok, ov, stays it (List.mem_singleton.mpr rfl) _ at_it⟩
  item := by
    intro X eP eW eK calm i pins s σ H E inv free ⟨ok, ov, at_it⟩ ⟨d_locked, lt⟩
    subst eP eW eK
    obtain ⟨no_sys, d_at, exact_, es2, ep2, is_dict2, many, entries⟩ := lockedT inv d_locked
    obtain ⟨rfl, rfl⟩ := dict_ep is_dict is_dict2
    have has : kvs[i]? = some (kvs[i].1, kvs[i].2) := List.getElem?_eq_getElem lt
    obtain ⟨en, q, en_at, en_key, q_at, val_rel⟩ := entries i _ _ has
    have lt' : i < es2.size := many.symm ▸ lt
    have en_is : es2[i] = en := by
      rw [Array.getElem?_eq_getElem lt'] at en_at
      exact Option.some.inj en_at
    rw [← many] at at_it
    have it_lt : it < s.heap.objs.size := Heap.lt_size at_it
    refine DT.nextI at_it ⟨od, d_at, exact_, is_dict2⟩ lt' fun h1 out pair_at size1 stays1 => ?_
    rw [en_is, en_key] at out pair_at
    refine ⟨_, rfl, wpAny_letOwnedTupleGo_items (s := { s with heap := h1 }) out fun h2 at_it2 same2 => ?_⟩
    have pair2 : h2.get? s.heap.objs.size = some { cls := .type "tuple", data := .seq #[.ref q, en.val] } := (same2.2 _ (Nat.ne_of_gt it_lt)).trans pair_at
    have fine : ObjOk X.prog X.w (upd H s.heap.objs.size (.tup [.ref q, kvs[i].2])) h2 s.heap.objs.size (.tup [.ref q, kvs[i].2]) :=
      ⟨by show 2 ≤ sizeLine; decide, [.ref q, en.val], .cons rfl (.cons val_rel .nil), ⟨_, pair2, rfl, _, rfl⟩⟩
    have inv2 := inv.turnedNew (t' := s.toks) (ch := [it]) (fun b ob hb e => (same2.2 b fun z => hb (List.mem_singleton.mpr z)).trans (stays1 b ob (fun z => hb (List.mem_singleton.mpr z)) e)) free (Nat.le_refl _) fine
    refine ⟨.ref s.heap.objs.size, _, inv2, rfl, ⟨_, q, _, _, has, rfl, q_at, inv.hok.fresh (Nat.le_refl _), rfl⟩, ⟨.ref q, en.val, many ▸ at_it2⟩, fun b hb => ?_⟩
    cases List.mem_singleton.mp hb
    rw [upd_ne (Nat.ne_of_lt it_lt)]
    exact (free it (List.mem_singleton.mpr rfl)).1
  done := by
    intro X eP eW eK calm i pins s σ H E inv free ⟨ok, ov, at_it⟩ ⟨d_locked, ge⟩
    subst eP eW eK
    obtain ⟨f0, f1, f2, f3, f4, f5⟩ := free it (List.mem_singleton.mpr rfl)
    obtain ⟨no_sys, d_at, exact_, es2, ep2, is_dict2, many, entries⟩ := lockedT inv d_locked
    obtain ⟨rfl, rfl⟩ := dict_ep is_dict is_dict2
    rw [← many] at at_it
    exact DT.endI (inv.ok.hd calm) at_it ⟨od, d_at, exact_, is_dict2⟩ (many.symm ▸ ge) fun h1 but => ⟨rfl, inv.turned (t' := s.toks) (fun b ob hb e => but b ob hb e) f0 f1 f3 f4 f5⟩
  self := fun A i s Q E ⟨ok, ov, at_it⟩ q => PySem.W.kcp_self at_it q
end
/-- for k, v in d.items(): d is locked -/
def iItemsT (td : TE) : TI := fun σ H R => td σ H fun x H1 => ∃ d od kvs, x = .ref d ∧ H1 d = some (.frz od (.dT kvs)) ∧ R (Itit d od kvs) H1
section
variable {X : Cx} {e : Expr} {td : TE} {apos cpos : Pos}
theorem pi_itemsT {elts : List Expr} {kk : Nat} {tpos : Pos} (he : PE X e td) (hbase : attributeBase e "items" X.env (eval e X.env) = eval e X.env := by rfl) (hline : (apos.endLine == cpos.line) = true := by rfl) :
    PI X (.Tuple elts kk tpos) (.Call (.Attribute e "items" apos) [] [] cpos) (iItemsT td) := ⟨fun pins s σ H R inv q => by
  refine wpAny_Call_method (T := "dict") (id := "dict.items") hbase rfl hline F.plainAttrs_dict F.slot_dict_items F.type_dict_items (thn (he.run pins s σ H _ inv q) fun u s1 ⟨x, H1, inv1, rel, d, od, kvs, x_is, d_locked, q1⟩ => ?_)
  subst x_is
  obtain rfl : u = Value.ref d := rel
  obtain ⟨no_sys, d_at, exact_, es, ep, is_dict, many, entries⟩ := lockedT inv1 d_locked
  have raw : DT.Raw s1.heap d es ep := ⟨od, d_at, exact_, is_dict⟩
  refine ⟨raw.typeIs, (fun c z => by cases z; exact ⟨od, d_at, exact_.2.1⟩), ?_⟩
  have inv2 : Inv X pins σ H1 { s1 with heap := s1.heap.push { cls := .type "dict_items", data := .fields #[.ref d] } } := inv1.kept (t' := s1.toks) fun b ob z => Heap.get?_push_of_some _ z
  have go : wpAny (model X.prog X.w) X.A (pyIter (.ref s1.heap.objs.size)) (PIE X pins σ (.Tuple elts kk tpos) fun J H' => R J H') X.xe { s1 with heap := s1.heap.push { cls := .type "dict_items", data := .fields #[.ref d] } } := by
    refine DT.iterI (d := d) (es := es) (ep := ep) ⟨_, Heap.get?_push_size _ rfl, rfl, rfl⟩ (raw.push _) (pi_one (tk := s1.toks) inv2 _ (turnT _ is_dict) ⟨.none, .none, ?_⟩ q1)
    rw [← many]
    exact Heap.get?_push_size _ rfl
  show wpAny _ _ (callWith cpos (.builtin "dict.items") [.ref d] [] []) _ X.xe s1
  exact method_meetsIn F.slot_dict_items F.entry_dict_items rfl (PySem.evalArgs_none ⟨rfl, raw.typeIs, F.args_dict_items_1 _, _, DT.meetsItems (es := es) (ep := ep) no_sys, ⟨raw, go⟩⟩)⟩
end
theorem walk_itemsT {d : Addr} {od : Obj} {kvs : List (List Key × V)} : Walk (Itit d od kvs) kvs.length (fun H => H d = some (.frz od (.dT kvs)))
    (fun i H x H' => ∃ (T q : Addr) (ks : List Key) (v : V), kvs[i]? = some (ks, v) ∧ x = .ref T ∧ H q = some (.tup (ks.map kV)) ∧ H T = none ∧ H' = upd H T (.tup [.ref q, v])) :=
  ⟨fun _ _ lt at_ => ⟨at_, lt⟩, fun _ at_ => ⟨at_, Nat.le_refl _⟩, fun _ _ _ _ _ _ y => y⟩
end TW
set_option Elab.async false
set_option linter.all false
set_option maxRecDepth 100000
set_option maxHeartbeats 4000000
/-! dicts with tuple keys: {k: v}, d.update(e), {k: v for ..}, d != {} -/
namespace TW
open PySem PySem.Spec PyProof.Rows L2
section
variable {X : Cx} {pins : List (Addr × Obj)} {σ : L2.St} {H : Hp} {s : Shared}
/-- d[k] = v in a display or a comprehension -/
theorem d_dictSetT {D b : Addr} {kvs : List (List Key × V)} {k : List Key} {v : V} {u r : Value} {E : Value → Shared → Prop} {Q : Unit → Shared → Prop} (room : X.A.units < cLine) (I : Inv X pins σ H s) (at_D : H D = some (.dT kvs)) (few : kvs.length < sizeLine)
    (at_b : H b = some (.tup (k.map kV))) (rb : RelV (.ref b) u) (rv : RelV v r) (h : ∀ s', Inv X pins σ (upd H D (.dT (putK kvs k v))) s' → Q () s') : wpAny (model X.prog X.w) X.A (dictSet D u r) Q E s := by
  obtain rfl : u = Value.ref b := rb
  obtain ⟨_, no_sys, xs, rel, dict_⟩ := dt_of I.hok at_D
  have more := length_putK kvs k v
  refine wpAny_dictSet_heap (hsz := by rw [← Paired.length rel]; omega) room (key_of I.hok at_b) dict_ fun h' now same => h _ ?_
  obtain ⟨o, es, ep, o_at, is_d, data, listed, _, nd⟩ := now
  refine d_write I (by rw [at_D]; exact True.intro) same ⟨o, o_at⟩ ⟨by omega, no_sys, _, (rel.put k at_b rv).keeps fun c ys z => ?_, o, es, ep, o_at, is_d, data, listed, nd⟩
  rw [upd_ne (ne_of z at_D fun q => nomatch q)]
  exact z
end
/-! ### {k: v} -/
def tDisp1T (tk tv : TE) : TE := fun σ H Q => ∀ p, H p = none → tk σ (upd H p (.dT [])) fun x H1 => tv σ H1 fun y H2 => ∃ (b : Addr) (k : List Key), x = .ref b ∧ H2 b = some (.tup (k.map kV)) ∧ H2 p = some (.dT []) ∧ Q (.ref p) (upd H2 p (.dT [(k, y)]))
theorem pe_disp1T {X : Cx} {pos : Pos} {k v : Expr} {tk tv : TE} (room : X.A.units < cLine) (hk : PE X k tk) (hv : PE X v tv) : PE X (.Dict [some k] [v] pos) (tDisp1T tk tv) := by
  refine ⟨fun pins s σ H Q I h => ?_⟩
  have free := I.hok.fresh (Nat.le_refl s.heap.objs.size)
  have I1 := I.laid (a := s.heap.objs.size) (o := .dT []) (h' := s.heap.push { cls := .type "dict", data := .dict #[] }) (t' := s.toks) (fun _ _ z => Heap.get?_push_of_some _ z) (Nat.le_refl _) (dt_empty s.heap I.big)
  rw [arm_eval_Dict, zip_pairTrees [some k] [v] X.env pos rfl rfl, dictDisplay_pairs (pairTrees [some k] [v] X.env pos) (by simp [pairTrees]) (by simp [pairTrees])]
  refine wpAny_bind (wpAny_standAt (wpAny_bind ?_))
  refine wpAny_subDictH (knd := tupleKind (mixKind X.prog X.w)) (Q := fun d s' => wpAny (model X.prog X.w) X.A (pure (Value.ref d)) (EP X pins σ Q) X.xe s') room (by simp [pairTrees]) ?_
  refine pairTrees_cons_walk (thn (hk.run pins _ σ _ _ I1 (h _ free)) fun u s1 ⟨x, H1, J1, rx, q1⟩ => thn (hv.run pins s1 σ H1 _ J1 q1) fun u2 s2 ⟨y, H2, J2, ry, q2⟩ => pairTrees_nil_walk ?_)
  obtain ⟨b, ks, x_is, at_b, at_p, q3⟩ := q2
  subst x_is
  obtain rfl : u = Value.ref b := rx
  obtain ⟨_, no_sys, xs, rel, dict_⟩ := dt_of J2.hok at_p
  cases rel
  refine ⟨[(ks, b, u2)], ⟨rfl, rfl, key_of J2.hok at_b, trivial⟩, dict_, fun h' tk now same => wpAny_pure ⟨.ref s.heap.objs.size, upd H2 s.heap.objs.size (.dT [(ks, y)]), ?_, rfl, q3⟩⟩
  obtain ⟨o, es, ep, o_at, is_d, data, listed, _, nd⟩ := now
  refine d_write J2 (by rw [at_p]; exact True.intro) same ⟨o, o_at⟩ ⟨by show 1 ≤ sizeLine; decide, no_sys, _, .cons ⟨rfl, ?_, ry⟩ .nil, o, es, ep, o_at, is_d, data, listed, nd⟩
  rw [upd_ne (ne_of at_b at_p fun z => nomatch z)]
  exact at_b
/-! ### d.update(e) -/
theorem kt_more {H : Hp} : ∀ {more : List (List Key × V)} {ys : List (List Key × Addr × Value)} {kvs : List (List Key × V)} {xs : List (List Key × Addr × Value)}, KT H more ys → KT H kvs xs → KT H (mergeT kvs more) (storedAllH xs ys) := by
  intro more ys kvs xs rel
  induction rel generalizing kvs xs with
  | nil => exact fun z => z
  | @cons p q ps qs here _ ih =>
    intro z
    obtain ⟨e1, e2, e3⟩ := here
    have step : KT H (putK kvs p.1 p.2) (storedH xs q.1 q.2.1 q.2.2) := by
      have z2 := z.put p.1 e2 e3
      rw [e1] at z2 ⊢
      exact z2
    exact ih step
def tDUpd (td te : TE) : TE := fun σ H Q => td σ H fun x H1 => ∃ a, x = .ref a ∧ (∃ kvs, H1 a = some (.dT kvs)) ∧ te σ H1 fun y H2 => ∃ (b : Addr) (kvs more : List (List Key × V)), y = .ref b ∧ b ≠ a ∧ H2 a = some (.dT kvs) ∧ kvs ≠ [] ∧ H2 b = some (.dT more) ∧ kvs.length + more.length ≤ sizeLine ∧ Q .non (upd H2 a (.dT (mergeT kvs more)))
theorem pe_dupd {X : Cx} {o e : Expr} {apos cpos : Pos} {td te : TE} (room : X.A.units + 1 < cLine) (ho : PE X o td) (he : PE X e te) (m : M1 X o "update" apos e cpos) : PE X (.Call (.Attribute o "update" apos) [e] [] cpos) (tDUpd td te) := by
  refine ⟨fun pins s σ H Q I h => ?_⟩
  refine wpAny_Call_method m.base m.few m.line PySem.F.plainAttrs_dict PySem.F.slot_dict_update PySem.F.type_dict_update (thn (ho.run pins s σ H _ I h) fun u s1 ⟨x, H1, I1, rx, a, x_is, ⟨kvs0, at0⟩, q1⟩ => ?_)
  subst x_is
  obtain rfl : u = Value.ref a := rx
  obtain ⟨t1, t2, _⟩ := isD_at I1 (.inr ⟨kvs0, .inl at0⟩)
  refine ⟨t1, t2, ?_⟩
  rw [m.trees]
  refine Calls.callWith_builtin rfl (Calls.evalArgs_plain (Calls.spliced_cons (thn (he.run pins s1 σ H1 _ I1 q1) fun iv s2 ⟨y, H2, I2, ry, b, kvs, more, y_is, ne, at_a, full, at_b, few, q2⟩ => Calls.spliced_nil ?_)))
  subst y_is
  obtain rfl : iv = Value.ref b := ry
  obtain ⟨_, no_a, xs, rel, da⟩ := dt_of I2.hok at_a
  obtain ⟨_, no_b, ys, rel2, db⟩ := dt_of I2.hok at_b
  have l1 := Paired.length rel
  have l2 := Paired.length rel2
  refine PySem.call_update_dictH (knd := tupleKind (mixKind X.prog X.w)) (tupleKind_room_in1 room) (Ne.symm ne) no_b da db (.inl fun z => full (by rw [z] at l1; exact List.eq_nil_of_length_eq_zero l1)) (by omega) fun h' now _ same => ?_
  obtain ⟨o, es, ep, o_at, is_d, data, listed, _, nd⟩ := now
  refine ⟨.non, upd H2 a (.dT (mergeT kvs more)), d_write (t' := s2.toks) I2 (by rw [at_a]; exact True.intro) same ⟨o, o_at⟩ ⟨Nat.le_trans (length_mergeT more kvs) few, no_a, _, (kt_more rel2 rel).keeps fun c zs z => ?_, o, es, ep, o_at, is_d, data, listed, nd⟩, rfl, q2⟩
  rw [upd_ne (ne_of z at_a fun q => nomatch q)]
  exact z
theorem m1_of {X : Cx} {o e : Expr} {m : Str} {apos cpos : Pos} (base : attributeBase o m X.env (eval o X.env) = eval o X.env := by rfl)
    (few : ((backTo cpos (starEach [e] X.env)).all (fun x => !x.1) && (backToKw cpos (keywordEach [] X.env)).all (fun x => x.1.isSome) && decide (([e] : List Expr).length + ([] : List Keyword).length + (if ([] : List Keyword).isEmpty then 0 else 1) < 30)) = true := by rfl)
    (line : (apos.endLine == cpos.line) = true := by rfl) (trees : backTo cpos (starEach [e] X.env) = [(false, eval e X.env)] := by rfl) : M1 X o m apos e cpos := ⟨base, few, line, trees⟩
/-! ### {k: v for .. in .. if ..} -/
def tDcT (wi : TI) (g : TG) (tt : TT) (tk tv : TE) (vs : List Nat) : TE := fun σ H Q => wi σ H fun J H1 => ∀ D, H1 D = none → ∃ W : Nat → Nat → Hp → Prop, (∃ m, W 0 m (upd H1 D (.dT []))) ∧
  loopR J W (fun H => Q (.ref D) H) fun x H' Nx => turnR g tt vs σ x H' (fun σ2 H3 => tk σ2 H3 fun y H4 => tv σ2 H4 fun z H5 => ∃ (kvs : List (List Key × V)) (k : List Key) (b : Addr), y = .ref b ∧ H5 b = some (.tup (k.map kV)) ∧ H5 D = some (.dT kvs) ∧ kvs.length < sizeLine ∧ Nx (upd H5 D (.dT (putK kvs k z)))) Nx
structure Blk1 (X : Cx) (kx vx t0 : Expr) (f0 : List Expr) (scope : Scope) (g : TG) (tt : TT) (tk tv : TE) : Prop where
  pg : ∀ (s : Shared) (H : Hp) (C : Addr) (cl : List (Str × Addr)) (fp : List Addr), PG (X.blk s H scope (compEnvC scope cl C X.env) fp) t0 g
  pt : ∀ (s : Shared) (H : Hp) (C : Addr) (cl : List (Str × Addr)) (fp : List Addr), PTs (X.blk s H scope (compEnvC scope cl C X.env) fp) f0 tt
  pk : ∀ (s : Shared) (H : Hp) (C : Addr) (cl : List (Str × Addr)) (fp : List Addr), PE (X.blk s H scope (compEnvC scope cl C X.env) fp) kx tk
  pv : ∀ (s : Shared) (H : Hp) (C : Addr) (cl : List (Str × Addr)) (fp : List Addr), PE (X.blk s H scope (compEnvC scope cl C X.env) fp) vx tv
theorem pe_dcT {X : Cx} {kx vx t0 i0 : Expr} {f0 : List Expr} {scope : Scope} {own : List (Str × Nat)} {pos : Pos} {wi : TI} {g : TG} {tt : TT} {tk tv : TE} (hc : X.calm = true) (room : X.A.units < cLine) (hN : X.N.Nodup) (hi : PI X t0 i0 wi) (ok : BlkOk X.N X.env.scope scope own)
    (B : Blk1 X kx vx t0 f0 scope g tt tk tv) (hs : ∀ x, foldedSetIterable i0 X.env x = pure x := by intro _; rfl) :
    PE X (.DictComp kx vx [⟨t0, i0, f0, 0⟩] scope pos) (tDcT wi g tt tk tv (own.map (·.2))) := by
  refine ⟨fun pins s σ H Q I h => ?_⟩
  rw [arm_eval_DictComp]
  have hfree : ∀ y ∈ scope.names, y.2 = .free → ∃ c, X.env.cells.lookup y.1 = some c := fun y hy e => (ok.free y hy e).elim (fun k => I.ok.has _ (.inl k)) fun k => I.ok.has _ (.inr k)
  refine wpAny_comprehension_free (use := none) rfl hs (closure_ok hfree) ok.kind (fun y hy e => by rw [ok.uniq y hy, e]) (thn (hi.run pins s σ H _ I h) fun xv s1 hx => thn hx fun itv s2 h2 => ?_)
  obtain ⟨it, fp, tn, J, H2, rfl, I2, T, st2, f2, q⟩ := h2
  refine wpAny_newObj_type (newEnv_comp ?_)
  generalize hD : s2.heap.objs.size = D
  have free_D : H2 D = none := I2.hok.fresh (Nat.le_of_eq hD)
  obtain ⟨W, ⟨m0, w0⟩, turn⟩ := q D free_D
  generalize hs3 : ({ s2 with heap := s2.heap.push { cls := .type "dict", data := .dict #[] } } : Shared) = s3
  have h3 : s3.heap = s2.heap.push { cls := .type "dict", data := .dict #[] } := by rw [← hs3]
  have I3 : Inv X pins σ (upd H2 D (.dT [])) s3 := by
    rw [← hs3, ← hD]
    exact I2.laid (t' := s2.toks) (fun b o e => Heap.get?_push_of_some _ e) (Nat.le_refl _) (dt_empty s2.heap I2.big)
  have f3 : ∀ b ∈ fp, FpOk X pins (upd H2 D (.dT [])) b ∧ b < s3.heap.objs.size := fun b hb => by
    obtain ⟨o, e, _⟩ := T.obj _ _ st2 b hb
    have lt := Heap.lt_size e
    refine ⟨⟨?_, (f2 b hb).2⟩, by rw [h3, Heap.size_push]; exact Nat.lt_succ_of_lt lt⟩
    rw [upd_ne (hD ▸ Nat.ne_of_lt lt)]
    exact (f2 b hb).1
  have st3 : tn 0 s3.heap := T.keep _ _ _ st2 fun b _ o e => h3 ▸ Heap.get?_push_of_some _ e
  have I4 := block_start I3 ok hN f3
  generalize hcl : cellsFrom (s3.heap.objs.size + 1) scope.names (cloFrom X.env.cells scope.names []) = cl at I4 ⊢
  have pg := B.pg s3 (upd H2 D (.dT [])) s3.heap.objs.size cl fp
  have pt := B.pt s3 (upd H2 D (.dT [])) s3.heap.objs.size cl fp
  have pk := B.pk s3 (upd H2 D (.dT [])) s3.heap.objs.size cl fp
  have pv := B.pv s3 (upd H2 D (.dT [])) s3.heap.objs.size cl fp
  show codeAny _ _ (.compStart (.DictComp kx vx [⟨t0, i0, f0, 0⟩] scope pos) 0 (.ref it) (.ref D) (compEnvC scope cl s3.heap.objs.size X.env)) (compPost (model X.prog X.w) X.A X.xe none _ (.ref D) s3.heap.objs.size) { s3 with heap := pushCells (s3.heap.push { cls := .type "dict", data := .dict #[] }) scope.names }
  have nfp : ∀ b ∈ fp, (upd H2 D (.dT [])) b = none := fun b hb => (f3 b hb).1.1
  generalize hce : compEnvC scope cl s3.heap.objs.size X.env = ce at I4 pg pt pk pv ⊢
  have cL : ce.locals = s3.heap.objs.size := by rw [← hce]; rfl
  generalize hH3 : upd H2 D (.dT []) = H3 at I3 I4 pg pt pk pv w0 nfp f3
  generalize hs4 : ({ s3 with heap := pushCells (s3.heap.push { cls := .type "dict", data := .dict #[] }) scope.names } : Shared) = s4 at I4 ⊢
  have st4 : tn 0 s4.heap := T.keep _ _ _ st3 fun b _ o e => hs4 ▸ pushCells_keeps _ _ _ _ (Heap.get?_push_of_some _ e)
  have stat : ∀ {σ' : L2.St} {H' : Hp} {s' : Shared}, Inv (X.blk s3 H3 scope ce fp) [] σ' H' s' → (∀ b ∈ fp, H' b = none) → ∀ b ∈ fp, FpOk (X.blk s3 H3 scope ce fp) [] H' b := fun {σ' H' s'} I' hn b hb =>
    ⟨hn b hb, (I'.ok.exf b hb).1, I'.ok.exfs b hb, .inl hb, fun x c e => (I'.ok.exf b hb).2 x c e, fun p hp => absurd (show p ∈ ([] : List (Addr × Obj)) ++ [] from hp) (by simp)⟩
  have loop : codeAny (model X.prog X.w) X.A (.compLoop (.DictComp kx vx [⟨t0, i0, f0, 0⟩] scope pos) 0 (.ref it) (.ref D) ce) (compPost (model X.prog X.w) X.A X.xe none (EP X pins σ Q) (.ref D) s3.heap.objs.size) s4 := by
    refine compLoop_anyD (fun n s' => ∃ i H', Inv (X.blk s3 H3 scope ce fp) [] (wipe σ (own.map (·.2))) H' s' ∧ tn i s'.heap ∧ (∀ b ∈ fp, H' b = none) ∧ W i n H') ?_ m0 ⟨0, H3, I4, st4, nfp, w0⟩
    rintro n s5 ⟨i, H5, I5, st5, n5, w5⟩
    rcases turn i n H5 w5 with ⟨stop, qq⟩ | ⟨go, Nx, hNx, step⟩
    · refine thnF (T.done (X.blk s3 H3 scope ce fp) rfl rfl rfl hc i [] s5 _ H5 (fun _ _ => False) I5 (stat I5 n5) st5 stop) fun r s6 ⟨hr, I6⟩ => ?_
      subst hr
      have I7 : Inv X pins σ H5 s6 := I3.call' (ch := fp) I6.os I6.base I6.hok I6.bare fun b hb => by
        obtain ⟨x1, x2, x3, x4, x5, x6⟩ := (f3 b hb).1
        exact ⟨x4, x2, x5, x6⟩
      have nC : H5 s3.heap.objs.size = none := cL ▸ (show H5 ce.locals = none from I6.free)
      obtain ⟨m, hn, _⟩ := I6.loc
      have hn : s6.heap.Ns ce.locals m := hn
      rw [cL] at hn
      obtain ⟨y1, y2, y3, y4, y5, y6⟩ := I3.fpOk (Nat.le_refl _) nC
      exact ⟨m, hn, fun h'' sb => ⟨.ref D, H5, I7.turned (t' := s6.toks) (fun b o hb e => (sb.2 b hb).trans e) y1 y2 y4 y5 y6, rfl, qq⟩⟩
    · refine thnF (T.item (X.blk s3 H3 scope ce fp) rfl rfl rfl hc i [] s5 _ H5 (fun _ _ => False) I5 (stat I5 n5) st5 go) fun r s6 ⟨u, hr, h6⟩ => ?_
      subst hr
      refine thnF h6 fun _ s7 ⟨x, H7, I7, r7, y7, st7, n7⟩ => ?_
      refine thnF (pg.run _ s7 _ H7 x u _ (I7.pinned (stat I7 n7) (T.obj _ _ st7)) r7 (step x H7 y7)) fun _ s8 ⟨σ8, H8, I8, hw8, q8⟩ => ?_
      refine thnF (pt.run _ s8 σ8 H8 _ I8 q8) fun b s9 ⟨H9, I9, q9⟩ => ?_
      have l8 : (wipe σ (own.map (·.2))).length = σ8.length := by rw [← hw8, wipe_length]
      have k8 : ∀ (j : Nat) v, (wipe σ (own.map (·.2)))[j]? = some (some v) → σ8[j]? = some (some v) := fun j v e => (wipe_some (vs := own.map (·.2)) (hw8 ▸ e)).1
      have fin : ∀ {s' : Shared} {H' : Hp}, Inv (X.blk s3 H3 scope ce fp) ([] ++ pinsAt fp s7.heap) σ8 H' s' → Nx H' → ∃ m, m < n ∧ ∃ i H', Inv (X.blk s3 H3 scope ce fp) [] (wipe σ (own.map (·.2))) H' s' ∧ tn i s'.heap ∧ (∀ b ∈ fp, H' b = none) ∧ W i m H' := fun {s' H'} I' nx => by
        obtain ⟨m', hm, w'⟩ := hNx H' nx
        have kept : ∀ b ∈ fp, ∀ o, s7.heap.get? b = some o → s'.heap.get? b = some o ∧ H' b = none := fun b hb o e => by
          have z := I'.pin (b, o) (List.mem_append_right _ (List.mem_append_right _ (mem_pinsAt hb e)))
          exact ⟨z.1, z.2.1⟩
        refine ⟨m', hm, i + 1, H', (I'.unpinned (pins := [])).weak l8 k8, T.keep _ _ _ st7 fun b hb o e => (kept b hb o e).1, fun b hb => ?_, w'⟩
        obtain ⟨o, e, _⟩ := T.obj _ _ st7 b hb
        exact (kept b hb o e).2
      cases b with
      | false =>
        simp only [Bool.false_eq_true, if_false] at q9 ⊢
        exact fin I9 q9
      | true =>
        simp only [if_true] at q9 ⊢
        refine thnF (pk.run _ s9 σ8 H9 _ I9 q9) fun z s10 ⟨yk, H10, I10, r10, q10⟩ => ?_
        refine thnF (pv.run _ s10 σ8 H10 _ I10 q10) fun z2 s11 ⟨yv, H11, I11, r11, kvs, k, b, yk_is, at_b, at_D, few, nx⟩ => ?_
        subst yk_is
        exact d_dictSetT (X := X.blk s3 H3 scope ce fp) room I11 at_D few at_b r10 r11 fun s12 I12 => fin I12 nx
  exact codeAny_compStart_dict loop (T.self X.A 0 _ _ _ st4 loop)
/-! ### d != {} -/
section
variable {prog : Program} {w : World} {A : Around} {E : Value → Shared → Prop} {s : Shared}
theorem same_empty {nm : String} {a b : Addr} {es : Array DictEntry} {ep ep2 : Nat} {Q : Bool → Shared → Prop} (no_a : (a == sysModules) = false) (no_b : (b == sysModules) = false) (da : DT.Raw s.heap a es ep) (db : DT.Raw s.heap b #[] ep2) (h : Q (decide (es.size = 0)) s) :
    wpAny (model prog w) A (Builtin.Dict.samePairs nm a b) Q E s := by
  obtain ⟨oa, at_a, _, is_a⟩ := da
  obtain ⟨ob, at_b, _, is_b⟩ := db
  unfold Builtin.Dict.samePairs Builtin.Dict.showsAll
  rw [if_neg (by rw [no_a]; exact Bool.false_ne_true), if_neg (by rw [no_b]; exact Bool.false_ne_true)]
  refine wpAny_bind (wpAny_pure (wpAny_bind (wpAny_pure (wpAny_bind (wpAny_dictEntries at_a is_a ?_)))))
  dsimp only
  refine wpAny_bind (wpAny_dictEntries at_b is_b ?_)
  by_cases none_ : es.size = 0
  · rw [if_neg (by simp [none_])]
    rw [decide_eq_true none_] at h
    refine wpAny_bind (wpAny_dictEpoch at_a is_a (wpAny_bind ?_))
    rw [Std.Legacy.Range.forIn_eq_forIn_range']
    simp only [Std.Legacy.Range.size, none_, Nat.sub_zero, Nat.add_sub_cancel, Nat.div_one]
    exact wpAny_pure (wpAny_pure h)
  · rw [if_pos (by simp [none_])]
    rw [decide_eq_false none_] at h
    exact wpAny_bind (wpAny_rule (wpAny_pure h))
theorem ne_empty {a b : Addr} {es : Array DictEntry} {ep ep2 : Nat} {Q : Value → Shared → Prop} (no_a : (a == sysModules) = false) (no_b : (b == sysModules) = false) (da : DT.Raw s.heap a es ep) (db : DT.Raw s.heap b #[] ep2) (room : A.units < cLine)
    (h : Q (.bool (!decide (es.size = 0))) s) : wpAny (model prog w) A (compareOp .NotEq (.ref a) (.ref b)) Q E s := by
  refine wpAny_richCompare_same_room (op := .NotEq) da.typeIs db.typeIs PySem.F.slot_dict_ne (wpAny_call_entry PySem.F.slot_dict_ne da.typeIs PySem.F.entry_dict_ne ?_ (PySem.F.args_dict_ne_2 _ _)) room
  show wpAny _ _ (Builtin.Dict.dictSlotArgs "__ne__" ⟨[.ref a, .ref b], []⟩ >>= _) _ _ s
  refine wpAny_bind ?_
  unfold Builtin.Dict.dictSlotArgs
  refine wpAny_bind (wpAny_notOrdered_dict da.typeIs (show wpAny _ _ (pure (Value.ref a, Value.ref b)) _ _ s from wpAny_pure ?_))
  refine wpAny_bind (wpAny_isInstance (T := "dict") db.typeIs PySem.F.sub_dict_dict ?_)
  simp only [Bool.not_true, Bool.false_eq_true, if_false]
  refine wpAny_bind (wpAny_pure (wpAny_bind (wpAny_pure (wpAny_bind (same_empty no_a no_b da db ?_)))))
  exact wpAny_pure ⟨_, rfl, fun z => (nomatch z), by simpa using h⟩
end
theorem raw_dT {X : Cx} {pins : List (Addr × Obj)} {σ : L2.St} {H : Hp} {s : Shared} {a : Addr} {kvs : List (List Key × V)} (I : Inv X pins σ H s) (at_a : H a = some (.dT kvs)) : (a == sysModules) = false ∧ ∃ es ep, DT.Raw s.heap a es ep ∧ es.size = kvs.length := by
  obtain ⟨_, no_sys, xs, rel, o, es, ep, o_at, is_d, data, listed, _⟩ := dt_of I.hok at_a
  exact ⟨no_sys, es, ep, ⟨o, o_at, is_d, data⟩, (size_of_entries listed).trans (Paired.length rel).symm⟩
/-- d != e, e empty -/
def rNeE : R2 := fun x y H Q => ∃ (a b : Addr) (kvs : List (List Key × V)), x = .ref a ∧ y = .ref b ∧ H a = some (.dT kvs) ∧ H b = some (.dT []) ∧ Q (.bl (!kvs.isEmpty)) H
theorem op_neE {X : Cx} (room : X.A.units < cLine) : OpR X (compareOp .NotEq) rNeE := by
  intro pins s σ H x y v u Q I rx ry ⟨a, b, kvs, x_is, y_is, at_a, at_b, q⟩
  subst x_is y_is
  obtain rfl : v = Value.ref a := rx
  obtain rfl : u = Value.ref b := ry
  obtain ⟨no_a, es, ep, da, size_a⟩ := raw_dT I at_a
  obtain ⟨no_b, es2, ep2, db, size_b⟩ := raw_dT I at_b
  obtain rfl : es2 = #[] := Array.size_eq_zero_iff.mp size_b
  refine ne_empty no_a no_b da db room ⟨.bl (!kvs.isEmpty), H, I, ?_, q⟩
  show Value.bool _ = Value.bool _
  rw [size_a]
  cases kvs <;> simp
end TW
set_option Elab.async false
set_option linter.all false
set_option maxRecDepth 100000
set_option maxHeartbeats 4000000
/-! dicts with tuple keys as lists of pairs -/
namespace TW
open PySem PySem.Spec PyProof.Rows L2
open Evl (Ex)
section
variable {α β : Type} [DecidableEq α]
def aGet (m : List (α × β)) (a : α) : Option β := (m.find? fun p => decide (p.1 = a)).map (·.2)
def aPut (m : List (α × β)) (a : α) (b : β) : List (α × β) := if a ∈ m.map (·.1) then m.map (fun p => if p.1 = a then (p.1, b) else p) else m ++ [(a, b)]
def aMerge (m more : List (α × β)) : List (α × β) := more.foldl (fun acc p => aPut acc p.1 p.2) m
theorem aGet_nil (a : α) : aGet ([] : List (α × β)) a = none := rfl
theorem aGet_cons (p : α × β) (m : List (α × β)) (a : α) : aGet (p :: m) a = if p.1 = a then some p.2 else aGet m a := by
  unfold aGet
  by_cases h : p.1 = a <;> simp [List.find?_cons, h]
theorem aGet_none {m : List (α × β)} {a : α} : aGet m a = none ↔ a ∉ m.map (·.1) := by
  induction m with
  | nil => simp [aGet]
  | cons p m ih =>
    rw [aGet_cons]
    by_cases h : p.1 = a
    · simp [h]
    · rw [if_neg h, ih]
      simp [Ne.symm h]
theorem aGet_some {m : List (α × β)} {a : α} : (∃ b, aGet m a = some b) ↔ a ∈ m.map (·.1) := by
  cases h : aGet m a with
  | none => simp only [aGet_none.mp h, iff_false]; rintro ⟨b, z⟩; cases z
  | some b =>
    refine ⟨fun _ => ?_, fun _ => ⟨b, rfl⟩⟩
    by_cases q : a ∈ m.map (·.1)
    · exact q
    · rw [aGet_none.mpr q] at h; cases h
theorem aGet_of_mem {m : List (α × β)} {a : α} {b : β} (nd : (m.map (·.1)).Nodup) (h : (a, b) ∈ m) : aGet m a = some b := by
  induction m with
  | nil => cases h
  | cons p m ih =>
    rw [aGet_cons]
    rw [List.map_cons, List.nodup_cons] at nd
    rcases List.mem_cons.mp h with rfl | h
    · simp
    · rw [if_neg (fun z : p.1 = a => nd.1 (by rw [z]; exact List.mem_map.mpr ⟨(a, b), h, rfl⟩)), ih nd.2 h]
theorem mem_of_aGet {m : List (α × β)} {a : α} {b : β} (h : aGet m a = some b) : (a, b) ∈ m := by
  induction m with
  | nil => cases h
  | cons p m ih =>
    rw [aGet_cons] at h
    by_cases q : p.1 = a
    · rw [if_pos q] at h
      cases h
      subst q
      exact List.mem_cons_self
    · rw [if_neg q] at h
      exact List.mem_cons_of_mem _ (ih h)
theorem aPut_keys (m : List (α × β)) (a : α) (b : β) : (aPut m a b).map (·.1) = if a ∈ m.map (·.1) then m.map (·.1) else m.map (·.1) ++ [a] := by
  unfold aPut
  split
  · rw [List.map_map]
    apply List.map_congr_left
    intro p _
    show (if p.1 = a then (p.1, b) else p).1 = p.1
    split <;> rfl
  · simp
theorem aPut_nodup {m : List (α × β)} (nd : (m.map (·.1)).Nodup) (a : α) (b : β) : ((aPut m a b).map (·.1)).Nodup := by
  rw [aPut_keys]
  split
  · exact nd
  · rename_i h
    exact List.nodup_append.mpr ⟨nd, by simp, fun x hx y hy e => h (by rw [← List.mem_singleton.mp hy, ← e]; exact hx)⟩
theorem mem_aPut {m : List (α × β)} {a c : α} {b : β} : c ∈ (aPut m a b).map (·.1) ↔ c = a ∨ c ∈ m.map (·.1) := by
  rw [aPut_keys]
  split
  · rename_i h
    exact ⟨.inr, fun z => z.elim (fun z => z ▸ h) id⟩
  · rw [List.mem_append, List.mem_singleton]
    exact or_comm
theorem aGet_put (m : List (α × β)) (a c : α) (b : β) : aGet (aPut m a b) c = if c = a then some b else aGet m c := by
  unfold aPut
  split
  · rename_i h
    induction m with
    | nil => cases h
    | cons p m ih =>
      rw [List.map_cons, aGet_cons, aGet_cons]
      by_cases hp : p.1 = a
      · simp only [if_pos hp]
        by_cases hc : p.1 = c
        · simp [hc, hp ▸ hc.symm]
        · rw [if_neg hc, if_neg hc, if_neg (fun z => hc (hp.trans z.symm))]
          by_cases hm : a ∈ m.map (·.1)
          · rw [ih hm, if_neg (fun z => hc (hp.trans z.symm))]
          · clear ih
            have : m.map (fun p => if p.1 = a then (p.1, b) else p) = m := by
              conv => rhs; rw [← List.map_id m]
              apply List.map_congr_left
              intro q hq
              rw [if_neg (fun z : q.1 = a => hm (by rw [← z]; exact List.mem_map.mpr ⟨q, hq, rfl⟩))]
              rfl
            rw [this]
      · simp only [if_neg hp]
        rw [List.map_cons] at h
        have hm : a ∈ m.map (·.1) := (List.mem_cons.mp h).resolve_left fun z => hp z.symm
        rw [ih hm]
        by_cases hc : p.1 = c
        · rw [if_pos hc, if_pos hc, if_neg (fun z => hp (hc.trans z))]
        · rw [if_neg hc, if_neg hc]
  · rename_i h
    induction m with
    | nil => simp [aGet_cons, aGet_nil, eq_comm]
    | cons p m ih =>
      rw [List.cons_append, aGet_cons, aGet_cons]
      rw [List.map_cons, List.mem_cons, not_or] at h
      rw [ih h.2]
      by_cases hc : p.1 = c
      · rw [if_pos hc, if_pos hc, if_neg (fun z : c = a => h.1 (by rw [← z]; exact hc.symm))]
      · rw [if_neg hc, if_neg hc]
theorem length_aPut (m : List (α × β)) (a : α) (b : β) : (aPut m a b).length ≤ m.length + 1 := by
  unfold aPut
  split
  · simp
  · simp
theorem aMerge_snoc (m more : List (α × β)) (p : α × β) : aMerge m (more ++ [p]) = aPut (aMerge m more) p.1 p.2 := by
  unfold aMerge
  rw [List.foldl_append]
  rfl
theorem aMerge_nodup {m : List (α × β)} (nd : (m.map (·.1)).Nodup) : ∀ more : List (α × β), ((aMerge m more).map (·.1)).Nodup := by
  intro more
  induction more generalizing m with
  | nil => exact nd
  | cons p more ih => exact ih (aPut_nodup nd p.1 p.2)
theorem mem_aMerge {m : List (α × β)} {c : α} : ∀ {more : List (α × β)}, c ∈ (aMerge m more).map (·.1) ↔ c ∈ m.map (·.1) ∨ c ∈ more.map (·.1) := by
  intro more
  induction more generalizing m with
  | nil => simp [aMerge]
  | cons p more ih =>
    show c ∈ (aMerge (aPut m p.1 p.2) more).map (·.1) ↔ _
    rw [ih, mem_aPut, List.map_cons, List.mem_cons]
    constructor
    · rintro ((h | h) | h)
      · exact .inr (.inl h)
      · exact .inl h
      · exact .inr (.inr h)
    · rintro (h | h | h)
      · exact .inl (.inr h)
      · exact .inl (.inl h)
      · exact .inr h
/-- keys that are new: behind -/
theorem aPut_new {m : List (α × β)} {a : α} (h : a ∉ m.map (·.1)) (b : β) : aPut m a b = m ++ [(a, b)] := by
  unfold aPut
  rw [if_neg h]
theorem aMerge_new : ∀ {more m : List (α × β)}, (∀ p ∈ more, p.1 ∉ m.map (·.1)) → (more.map (·.1)).Nodup → aMerge m more = m ++ more
  | [], m, _, _ => (List.append_nil m).symm
  | p :: more, m, h, nd => by
    rw [List.map_cons, List.nodup_cons] at nd
    show aMerge (aPut m p.1 p.2) more = _
    rw [aPut_new (h p List.mem_cons_self), aMerge_new (fun q hq => ?_) nd.2]
    · simp
    · rw [List.map_append, List.mem_append, not_or]
      refine ⟨h q (List.mem_cons_of_mem _ hq), fun z => ?_⟩
      have z' : q.1 = p.1 := by simpa using z
      exact nd.1 (z' ▸ List.mem_map.mpr ⟨q, hq, rfl⟩)
end
/-- the dict's pairs are those of m -/
abbrev MapR {α β : Type} (K : PySem.W.Frag) (kE : α → List Key) (vE : β → PyData) (F : Hp) (kvs : List (List Key × V)) (m : List (α × β)) : Prop := Paired (fun kv p => kv.1 = kE p.1 ∧ Dp K F kv.2 (vE p.2)) kvs m
section
variable {α β : Type} [DecidableEq α] {K : PySem.W.Frag} {kE : α → List Key} {vE : β → PyData} {F F' : Hp} {kvs more : List (List Key × V)} {m n : List (α × β)}
theorem MapR.ex (r : MapR K kE vE F kvs m) (e : Ex F F') : MapR K kE vE F' kvs m := Paired.mapP r fun _ _ z => ⟨z.1, z.2.ex e⟩
theorem MapR.get (inj : ∀ a b, kE a = kE b → a = b) (r : MapR K kE vE F kvs m) (a : α) : (aGet m a = none ∧ valV kvs (kE a) = none) ∨ ∃ b v, aGet m a = some b ∧ valV kvs (kE a) = some v ∧ Dp K F v (vE b) := by
  induction r with
  | nil => exact .inl ⟨rfl, rfl⟩
  | @cons kv p kvs m h _ ih =>
    rw [aGet_cons]
    by_cases q : p.1 = a
    · rw [if_pos q, valV_pos (p := kv) (h.1.trans (congrArg kE q))]
      exact .inr ⟨_, _, rfl, rfl, h.2⟩
    · rw [if_neg q, valV_neg (p := kv) fun z => q (inj _ _ (h.1.symm.trans z))]
      exact ih
theorem MapR.has (inj : ∀ a b, kE a = kE b → a = b) (r : MapR K kE vE F kvs m) (a : α) : (valV kvs (kE a)).isSome = decide (a ∈ m.map (·.1)) := by
  rcases r.get inj a with ⟨h1, h2⟩ | ⟨b, v, h1, h2, _⟩
  · rw [h2, decide_eq_false (aGet_none.mp h1)]; rfl
  · rw [h2, decide_eq_true (aGet_some.mp ⟨b, h1⟩)]; rfl
theorem MapR.put (inj : ∀ a b, kE a = kE b → a = b) (r : MapR K kE vE F kvs m) (a : α) {b : β} {v : V} (hv : Dp K F v (vE b)) : MapR K kE vE F (putK kvs (kE a) v) (aPut m a b) := by
  unfold putK aPut
  rw [valV_any, r.has inj]
  by_cases h : a ∈ m.map (·.1)
  · rw [if_pos (decide_eq_true h), if_pos h]
    clear h
    induction r with
    | nil => exact .nil
    | @cons kv p kvs m h _ ih =>
      rw [List.map_cons, List.map_cons]
      refine .cons ?_ ih
      by_cases q : p.1 = a
      · rw [if_pos q, if_pos (h.1.trans (congrArg kE q))]
        exact ⟨h.1, hv⟩
      · rw [if_neg q, if_neg fun z => q (inj _ _ (h.1.symm.trans z))]
        exact h
  · rw [if_neg (by rw [decide_eq_false h]; exact Bool.false_ne_true), if_neg h]
    exact Paired.snoc r ⟨rfl, hv⟩
theorem MapR.merge (inj : ∀ a b, kE a = kE b → a = b) (r : MapR K kE vE F kvs m) (t : MapR K kE vE F more n) : MapR K kE vE F (mergeT kvs more) (aMerge m n) := by
  induction t generalizing kvs m with
  | nil => exact r
  | @cons kv p kvs2 m2 h _ ih =>
    have z := r.put inj p.1 h.2
    rw [← h.1] at z
    exact ih z
theorem MapR.len (r : MapR K kE vE F kvs m) : kvs.length = m.length := Paired.length r
theorem MapR.at_ (r : MapR K kE vE F kvs m) {i : Nat} {ks : List Key} {v : V} (h : kvs[i]? = some (ks, v)) : ∃ a b, m[i]? = some (a, b) ∧ ks = kE a ∧ Dp K F v (vE b) := by
  obtain ⟨p, h1, h2⟩ := paired_get r h
  exact ⟨p.1, p.2, h1, h2⟩
theorem MapR.empty (r : MapR K kE vE F kvs m) : kvs.isEmpty = m.isEmpty := by cases r <;> rfl
end
/-- a lot's key -/
def kI (l : List Int) : List Key := l.map Sum.inl
theorem kI_inj (a b : List Int) (h : kI a = kI b) : a = b := by
  unfold kI at h
  induction a generalizing b with
  | nil => cases b with
    | nil => rfl
    | cons _ _ => cases h
  | cons x a ih => cases b with
    | nil => cases h
    | cons y b =>
      rw [List.map_cons, List.map_cons, List.cons.injEq] at h
      rw [Sum.inl.inj h.1, ih b h.2]
theorem kI_V (l : List Int) : (kI l).map kV = l.map V.int := by
  unfold kI
  rw [List.map_map]
  rfl
end TW
set_option Elab.async false
set_option linter.all false
set_option maxRecDepth 100000
set_option maxHeartbeats 4000000
/-! the order of rows, of pairs (row, lot), of triples (size, row, lot) -/
namespace TW
open PySem PySem.Spec PyProof.Rows L2
def encR (r : List Str) : PyData := .tuple (r.map .str)
def encL (l : List Int) : PyData := .tuple (l.map .int)
/-- a row and its lot -/
abbrev RL := List Str × List Int
def enc2 (p : RL) : PyData := .tuple [encR p.1, encL p.2]
def enc3 (p : RL) : PyData := .tuple [.int (p.1.length : Nat), encR p.1, encL p.2]
abbrev Toks := List (Int ⊕ List Nat)
abbrev tlt (a b : Toks) : Bool := PyProof.Rows.lexLt itemOrd a b
theorem tlt_irrefl (a : Toks) : tlt a a = false := PyProof.Rows.lex_irrefl (O := itemOrd) a
theorem tlt_trans {a b c : Toks} (h : tlt a b = true) (k : tlt b c = true) : tlt a c = true := PyProof.Rows.lex_trans (O := itemOrd) a b c h k
theorem tlt_total {a b : Toks} (h : tlt a b = false) (k : tlt b a = false) : a = b := PyProof.Rows.lex_total (O := itemOrd) a b h k
theorem tle_trans {a b c : Toks} (h : tlt b a = false) (k : tlt c b = false) : tlt c a = false := by
  cases e : tlt c a with
  | false => rfl
  | true =>
    cases e2 : tlt a b with
    | true => rw [tlt_trans e e2] at k; cases k
    | false => rw [tlt_total e2 h] at e; rw [e] at k; cases k
theorem tlt_cons (x : Int ⊕ List Nat) (a b : Toks) : tlt (x :: a) (x :: b) = tlt a b := PyProof.Rows.lex_self (O := itemOrd) x a b
theorem tlt_pre : ∀ (p a b : Toks), tlt (p ++ a) (p ++ b) = tlt a b := PySem.W.lex_pre
abbrev tR (r : List Str) : Toks := PySem.W.keyToksAll (r.map .str)
abbrev tL (l : List Int) : Toks := PySem.W.keyToksAll (l.map .int)
theorem tR_inj : ∀ {a b : List Str} {x y : Toks}, tR a ++ x = tR b ++ y → a = b ∧ x = y
  | [], [], x, y, h => ⟨rfl, by simpa [tR, PySem.W.keyToksAll] using h⟩
  | [], b :: bs, x, y, h => by simp [tR, PySem.W.keyToksAll] at h
  | a :: as, [], x, y, h => by simp [tR, PySem.W.keyToksAll] at h
  | a :: as, b :: bs, x, y, h => by
    simp only [tR, List.map_cons, PySem.W.keyToksAll, PySem.W.keyToks, List.cons_append, List.nil_append, List.cons.injEq, true_and, Sum.inr.injEq] at h
    obtain ⟨h1, h2⟩ := h
    obtain ⟨e1, e2⟩ := tR_inj h2
    exact ⟨by rw [PySem.W.str_of_cps h1, e1], e2⟩
theorem tL_inj : ∀ {a b : List Int} {x y : Toks}, tL a ++ x = tL b ++ y → a = b ∧ x = y
  | [], [], x, y, h => ⟨rfl, by simpa [tL, PySem.W.keyToksAll] using h⟩
  | [], b :: bs, x, y, h => by simp [tL, PySem.W.keyToksAll] at h
  | a :: as, [], x, y, h => by simp [tL, PySem.W.keyToksAll] at h
  | a :: as, b :: bs, x, y, h => by
    simp only [tL, List.map_cons, PySem.W.keyToksAll, PySem.W.keyToks, List.cons_append, List.nil_append, List.cons.injEq, true_and, Sum.inl.injEq] at h
    obtain ⟨h1, h2⟩ := h
    obtain ⟨e1, e2⟩ := tL_inj h2
    exact ⟨by rw [h1, e1], e2⟩
theorem toks_encR (r : List Str) : PySem.W.keyToks (encR r) = tR r := by rw [encR, PySem.W.keyToks]
theorem toks_encL (l : List Int) : PySem.W.keyToks (encL l) = tL l := by rw [encL, PySem.W.keyToks]
theorem toks_enc2 (p : RL) : PySem.W.keyToks (enc2 p) = .inl 1 :: (tR p.1 ++ .inl 1 :: (tL p.2 ++ [.inl 0])) := by
  simp only [enc2, PySem.W.keyToks, PySem.W.keyToksAll, toks_encR, toks_encL]
theorem toks_enc3 (p : RL) : PySem.W.keyToks (enc3 p) = .inl 1 :: .inl (p.1.length : Nat) :: PySem.W.keyToks (enc2 p) := by
  simp only [enc3, enc2, PySem.W.keyToks, PySem.W.keyToksAll, List.cons_append, List.nil_append]
theorem enc2_inj {p q : RL} (h : PySem.W.keyToks (enc2 p) = PySem.W.keyToks (enc2 q)) : p = q := by
  rw [toks_enc2, toks_enc2, List.cons.injEq] at h
  obtain ⟨e1, h⟩ := tR_inj h.2
  rw [List.cons.injEq] at h
  obtain ⟨e2, _⟩ := tL_inj h.2
  exact Prod.ext e1 e2
/-- rows -/
def rlt (a b : List Str) : Bool := PySem.W.dataLt (encR a) (encR b)
theorem rlt_t (a b : List Str) : rlt a b = tlt (tR a) (tR b) := by rw [rlt, PySem.W.dataLt, toks_encR, toks_encR]
theorem rlt_irrefl (a : List Str) : rlt a a = false := by rw [rlt_t]; exact tlt_irrefl _
theorem rlt_trans {a b c : List Str} (h : rlt a b = true) (k : rlt b c = true) : rlt a c = true := by
  rw [rlt_t] at *
  exact tlt_trans h k
theorem rlt_total {a b : List Str} (h : rlt a b = false) (k : rlt b a = false) : a = b := by
  rw [rlt_t] at h k
  have e := tlt_total h k
  exact (tR_inj (x := []) (y := []) (by rw [e])).1
theorem rle_trans {a b c : List Str} (h : rlt b a = false) (k : rlt c b = false) : rlt c a = false := by
  rw [rlt_t] at *
  exact tle_trans h k
/-- pairs, triples -/
def le2 (p q : RL) : Bool := PySem.W.dataLe false enc2 p q
def le3 (p q : RL) : Bool := PySem.W.dataLe false enc3 p q
theorem le2_t (p q : RL) : le2 p q = !tlt (PySem.W.keyToks (enc2 q)) (PySem.W.keyToks (enc2 p)) := rfl
theorem le3_t (p q : RL) : le3 p q = !tlt (PySem.W.keyToks (enc3 q)) (PySem.W.keyToks (enc3 p)) := rfl
theorem le_trans_of {f : RL → Toks} (a b c : RL) (h : (!tlt (f b) (f a)) = true) (k : (!tlt (f c) (f b)) = true) : (!tlt (f c) (f a)) = true := by
  simp only [Bool.not_eq_true'] at *
  exact tle_trans h k
theorem le_total_of {f : RL → Toks} (a b : RL) : ((!tlt (f b) (f a)) || (!tlt (f a) (f b))) = true := by
  cases h : tlt (f b) (f a) with
  | false => rfl
  | true =>
    cases k : tlt (f a) (f b) with
    | false => rfl
    | true => have := tlt_trans h k; rw [tlt_irrefl] at this; cases this
theorem le3_anti (p q : RL) (h : le3 p q = true) (k : le3 q p = true) : p = q := by
  rw [le3_t, Bool.not_eq_true'] at h k
  have e := tlt_total k h
  rw [toks_enc3, toks_enc3] at e
  simp only [List.cons.injEq] at e
  exact enc2_inj e.2.2
theorem le3_short {p q : RL} (h : p.1.length < q.1.length) : le3 p q = true := by
  rw [le3_t, toks_enc3, toks_enc3, tlt_cons, Bool.not_eq_true']
  have e : (Sum.inl ((q.1.length : Nat) : Int) : Int ⊕ List Nat) ≠ Sum.inl ((p.1.length : Nat) : Int) := fun z => by
    have := Sum.inl.inj z
    omega
  refine (PyProof.Rows.lex_diff (O := itemOrd) e).trans ?_
  show decide (((q.1.length : Nat) : Int) < ((p.1.length : Nat) : Int)) = false
  rw [decide_eq_false]
  omega
theorem le3_same {p q : RL} (h : p.1.length = q.1.length) : le3 p q = le2 p q := by
  rw [le3_t, le2_t, toks_enc3, toks_enc3, tlt_cons, h, tlt_cons]
theorem sorted2 (l : List RL) : (l.mergeSort le2).Pairwise (fun a b => le2 a b = true) := List.pairwise_mergeSort (fun a b c h k => le_trans_of (f := fun p => PySem.W.keyToks (enc2 p)) a b c h k) (fun a b => le_total_of (f := fun p => PySem.W.keyToks (enc2 p)) a b) l
theorem sorted3 (l : List RL) : (l.mergeSort le3).Pairwise (fun a b => le3 a b = true) := List.pairwise_mergeSort (fun a b c h k => le_trans_of (f := fun p => PySem.W.keyToks (enc3 p)) a b c h k) (fun a b => le_total_of (f := fun p => PySem.W.keyToks (enc3 p)) a b) l
/-! ### < and <= of rows -/
theorem alike_R : ∀ a b : List Str, PySem.W.alike (encR a) (encR b) = true := by
  intro a b
  rw [encR, encR, PySem.W.alike]
  induction a generalizing b with
  | nil => rw [List.map_nil, PySem.W.alikeAll]
  | cons x a ih =>
    cases b with
    | nil => rw [List.map_cons, List.map_nil, PySem.W.alikeAll]
    | cons y b => rw [List.map_cons, List.map_cons, PySem.W.alikeAll, ih b, PySem.W.alike]; rfl
theorem depth_R (a : List Str) : (encR a).depth = 1 := by rw [encR, PyData.depth, PyProof.Rows.depthAll_strs']
structure rCmpT (K : PySem.W.Frag) (f : List Str → List Str → Bool) (x y : V) (H : Hp) (Q : VK) : Prop where
  r : ∃ (F : Hp) (a b : List Str), Sees F H ∧ Dp K F x (encR a) ∧ Dp K F y (encR b) ∧ Q (.bl (f a b)) H
section
variable {X : Cx}
theorem op_ltT (K : PySem.W.Frag) (hu : X.A.units + 8 < cLine) (hK : X.K = K := by rfl) : OpR X (compareOp .Lt) (rCmpT K rlt) := by
  subst hK
  rintro pins s σ H x y v u Q I rx ry ⟨F, a, b, see, da, db, q⟩
  obtain ⟨as, ra⟩ := Dp.reads I _ x v (Dp.sees see da) rx
  obtain ⟨bs, rb⟩ := Dp.reads I _ y u (Dp.sees see db) ry
  exact PySem.W.lt_data ra rb (alike_R a b) (by rw [encR]; exact fun z => nomatch z) (by rw [depth_R, depth_R]; show X.A.units + 1 < cLine; omega) ⟨.bl (rlt a b), H, I, rfl, q⟩
theorem op_leT (K : PySem.W.Frag) (hu : X.A.units + 8 < cLine) (hK : X.K = K := by rfl) : OpR X (compareOp .LtE) (rCmpT K fun a b => !rlt b a) := by
  subst hK
  rintro pins s σ H x y v u Q I rx ry ⟨F, a, b, see, da, db, q⟩
  obtain ⟨as, ra⟩ := Dp.reads I _ x v (Dp.sees see da) rx
  obtain ⟨bs, rb⟩ := Dp.reads I _ y u (Dp.sees see db) ry
  exact PySem.W.le_data ra rb (alike_R a b) (by rw [encR]; exact fun z => nomatch z) (by rw [depth_R, depth_R]; show X.A.units + 1 < cLine; omega) ⟨.bl (!rlt b a), H, I, rfl, q⟩
end
end TW
set_option Elab.async false
set_option linter.all false
set_option maxRecDepth 100000
set_option maxHeartbeats 4000000
/-! blends: marks put into groups, or left away -/
namespace TW
open PySem PySem.Spec PyProof.Rows L2
abbrev Bl := List (List Str)
def encB (b : Bl) : PyData := .tuple (b.map encR)
/-- one text ahead of another -/
def slt (x y : Str) : Prop := x.cps.toList < y.cps.toList
theorem slt_ne {x y : Str} (h : slt x y) : x ≠ y := fun e => by
  subst e
  exact absurd h (List.lt_irrefl _)
theorem slt_of {x y : Str} (h : sle x y = true) (n : x ≠ y) : slt x y := by
  unfold sle at h
  rw [decide_eq_true_eq] at h
  unfold slt
  refine Classical.byContradiction fun z => n ?_
  exact PySem.W.str_of_cps (List.le_antisymm h (List.not_lt.mp z))
theorem sle_of {x y : Str} (h : slt x y) : sle x y = true := by
  unfold sle
  rw [decide_eq_true_eq]
  exact List.not_lt.mp fun z => absurd (List.lt_trans h z) (List.lt_irrefl _)
theorem slt_trans {x y z : Str} (h : slt x y) (k : slt y z) : slt x z := List.lt_trans h k
theorem slt_sorted {l : List Str} (h : l.Pairwise (fun x y => sle x y = true)) (n : l.Nodup) : l.Pairwise slt := (h.and n).imp fun ⟨a, b⟩ => slt_of a b
theorem slt_nodup {l : List Str} (h : l.Pairwise slt) : l.Nodup := h.imp fun a => slt_ne a
theorem slt_eq {l m : List Str} (hl : l.Pairwise slt) (hm : m.Pairwise slt) (h : ∀ z, z ∈ l ↔ z ∈ m) : l = m :=
  ((List.perm_ext_iff_of_nodup (slt_nodup hl) (slt_nodup hm)).mpr h).eq_of_pairwise (le := fun x y => sle x y = true) (fun a b _ _ h1 h2 => sle_antisymm a b h1 h2) (hl.imp sle_of) (hm.imp sle_of)
/-- all ways to go on with one mark more -/
def oneMore (m : Str) (b : Bl) : List Bl := b :: (b ++ [[m]]) :: (List.range b.length).map fun i => b.take i ++ [b.getD i [] ++ [m]] ++ b.drop (i + 1)
def parts (ms : List Str) : List Bl := ms.foldl (fun found m => found.flatMap (oneMore m)) [[]]
theorem parts_snoc (ms : List Str) (m : Str) : parts (ms ++ [m]) = (parts ms).flatMap (oneMore m) := by
  unfold parts
  rw [List.foldl_append]
  rfl
/-- a blend of the marks ms -/
structure BlOk (ms : List Str) (b : Bl) : Prop where
  ne : ∀ g ∈ b, g ≠ []
  nd : b.flatten.Nodup
  sub : ∀ m ∈ b.flatten, m ∈ ms
  asc : ∀ g ∈ b, g.Pairwise slt
theorem split_at {b : Bl} {i : Nat} (h : i < b.length) : ∃ p g s, b = p ++ g :: s ∧ b.take i = p ∧ b.getD i [] = g ∧ b.drop (i + 1) = s := by
  refine ⟨b.take i, b[i], b.drop (i + 1), ?_, rfl, ?_, rfl⟩
  · rw [List.getElem_cons_drop, List.take_append_drop]
  · rw [List.getD_eq_getElem?_getD, List.getElem?_eq_getElem h]
    rfl
theorem blOk_more {ms : List Str} {m : Str} {b c : Bl} (h : BlOk ms b) (hm : ∀ z ∈ ms, slt z m) (hc : c ∈ oneMore m b) : BlOk (ms ++ [m]) c := by
  have new : m ∉ ms := fun z => slt_ne (hm m z) rfl
  have newB : m ∉ b.flatten := fun z => new (h.sub m z)
  unfold oneMore at hc
  rcases List.mem_cons.mp hc with rfl | hc
  · exact ⟨h.ne, h.nd, fun z hz => List.mem_append_left _ (h.sub z hz), h.asc⟩
  rcases List.mem_cons.mp hc with rfl | hc
  · refine ⟨fun g hg => ?_, ?_, fun z hz => ?_, fun g hg => ?_⟩
    · rcases List.mem_append.mp hg with hg | hg
      · exact h.ne g hg
      · rw [List.mem_singleton.mp hg]; exact fun z => nomatch z
    · rw [List.flatten_append]
      refine List.nodup_append.mpr ⟨h.nd, by simp, fun a ha c hc e => ?_⟩
      have hc' : c = m := by simpa using hc
      rw [e, hc'] at ha
      exact newB ha
    · rw [List.flatten_append, List.mem_append] at hz
      rcases hz with hz | hz
      · exact List.mem_append_left _ (h.sub z hz)
      · have e : z = m := by simpa using hz
        rw [e]; simp
    · rcases List.mem_append.mp hg with hg | hg
      · exact h.asc g hg
      · rw [List.mem_singleton.mp hg]; exact List.pairwise_singleton _ _
  obtain ⟨i, hi, rfl⟩ := List.mem_map.mp hc
  obtain ⟨p, g, s, e1, e2, e3, e4⟩ := split_at (List.mem_range.mp hi)
  rw [e2, e3, e4]
  rw [e1] at h newB
  have nd := h.nd
  have gm : ∀ z ∈ g, z ∈ ms := fun z hz => h.sub z (by simp [hz])
  refine ⟨fun k hk => ?_, ?_, fun z hz => ?_, fun k hk => ?_⟩
  · simp only [List.mem_append, List.mem_singleton] at hk
    rcases hk with (hk | rfl) | hk
    · exact h.ne k (by simp [hk])
    · simp
    · exact h.ne k (by simp [hk])
  · have pm : (p ++ [g ++ [m]] ++ s).flatten.Perm (m :: (p ++ g :: s).flatten) := by
      simp only [List.flatten_append, List.flatten_cons, List.flatten_nil, List.append_nil, List.append_assoc]
      refine (List.Perm.append_left p.flatten (List.Perm.append_left g (List.singleton_append ▸ List.Perm.refl _ : ([m] ++ s.flatten).Perm (m :: s.flatten)))).trans ?_
      refine (List.Perm.append_left p.flatten (List.perm_middle (a := m) (l₁ := g) (l₂ := s.flatten))).trans ?_
      exact List.perm_middle
    rw [pm.nodup_iff]
    exact List.nodup_cons.mpr ⟨newB, nd⟩
  · simp only [List.flatten_append, List.flatten_cons, List.flatten_nil, List.append_nil, List.mem_append, List.mem_singleton] at hz
    rcases hz with (hz | hz | rfl) | hz
    · exact List.mem_append_left _ (h.sub z (by simp at hz ⊢; exact .inl hz))
    · exact List.mem_append_left _ (gm z hz)
    · simp
    · exact List.mem_append_left _ (h.sub z (by simp at hz ⊢; exact .inr (.inr hz)))
  · simp only [List.mem_append, List.mem_singleton] at hk
    rcases hk with (hk | rfl) | hk
    · exact h.asc k (by simp [hk])
    · exact List.pairwise_append.mpr ⟨h.asc g (by simp), List.pairwise_singleton _ _, fun a ha c hc => by rw [List.mem_singleton.mp hc]; exact hm a (gm a ha)⟩
    · exact h.asc k (by simp [hk])
theorem parts_go : ∀ (ms pre : List Str) (found : List Bl), (∀ b ∈ found, BlOk pre b) → (pre ++ ms).Pairwise slt → ∀ b ∈ ms.foldl (fun found m => found.flatMap (oneMore m)) found, BlOk (pre ++ ms) b
  | [], pre, found, h, _, b, hb => by rw [List.append_nil]; exact h b hb
  | m :: ms, pre, found, h, pw, b, hb => by
    have e : pre ++ m :: ms = (pre ++ [m]) ++ ms := by simp
    rw [e] at pw ⊢
    refine parts_go ms (pre ++ [m]) _ (fun c hc => ?_) pw b hb
    obtain ⟨b0, h0, hc⟩ := List.mem_flatMap.mp hc
    have pm := (List.pairwise_append.mp (List.pairwise_append.mp pw).1).2.2
    exact blOk_more (h b0 h0) (fun z hz => pm z hz m (by simp)) hc
theorem parts_ok {ms : List Str} (pw : ms.Pairwise slt) {b : Bl} (hb : b ∈ parts ms) : BlOk ms b := by
  have z := parts_go ms [] [[]] (fun c hc => by rw [List.mem_singleton.mp hc]; exact ⟨fun _ h => (nomatch h), List.nodup_nil, fun _ h => (nomatch h), fun _ h => (nomatch h)⟩) (by simpa using pw) b hb
  simpa using z
/-- how many groups each has -/
def growN (k : Nat) : List Nat := k :: (k + 1) :: List.replicate k k
def prof : Nat → List Nat
  | 0 => [0]
  | n + 1 => (prof n).flatMap growN
theorem more_len (m : Str) (b : Bl) : (oneMore m b).map List.length = growN b.length := by
  unfold oneMore growN
  rw [List.map_cons, List.map_cons, List.map_map]
  refine congrArg (b.length :: ·) ?_
  rw [List.length_append]
  refine congrArg ((b.length + 1) :: ·) ?_
  refine List.eq_replicate_iff.mpr ⟨by simp, fun k hk => ?_⟩
  obtain ⟨i, hi, rfl⟩ := List.mem_map.mp hk
  have hi := List.mem_range.mp hi
  simp
  omega
theorem prof_go : ∀ (ms : List Str) (found : List Bl) (n : Nat), found.map List.length = prof n → (ms.foldl (fun found m => found.flatMap (oneMore m)) found).map List.length = prof (n + ms.length)
  | [], _, _, h => h
  | m :: ms, found, n, h => by
    rw [List.length_cons, show n + (ms.length + 1) = (n + 1) + ms.length by omega]
    refine prof_go ms _ (n + 1) ?_
    rw [List.map_flatMap]
    show found.flatMap (fun a => (oneMore m a).map List.length) = (prof n).flatMap growN
    rw [← h, List.flatMap_map]
    exact congrArg (fun f => found.flatMap f) (funext fun b => more_len m b)
theorem parts_prof (ms : List Str) : (parts ms).map List.length = prof ms.length := by
  have z := prof_go ms [[]] 0 rfl
  rw [Nat.zero_add] at z
  exact z
theorem parts_len (ms : List Str) : (parts ms).length = (prof ms.length).length := by rw [← parts_prof, List.length_map]
theorem prof_few : ∀ n, n ≤ 5 → (prof n).length ≤ 203 ∧ ∀ k ∈ prof n, k ≤ 5 := by decide +kernel
theorem prof_counts : (List.range 6).map (fun n => (prof n).length) = [1, 2, 5, 15, 52, 203] := by decide +kernel
theorem parts_few {ms : List Str} (h : ms.length ≤ 5) : (parts ms).length ≤ 203 ∧ ∀ b ∈ parts ms, b.length ≤ 5 := by
  obtain ⟨h1, h2⟩ := prof_few _ h
  refine ⟨by rw [parts_len]; exact h1, fun b hb => h2 _ ?_⟩
  rw [← parts_prof]
  exact List.mem_map_of_mem hb
/-! ### in order -/
abbrev leG : List Str → List Str → Bool := PySem.W.dataLe false encR
abbrev leB : Bl → Bl → Bool := PySem.W.dataLe false encB
theorem le_tr {α : Type} {e : α → PyData} (a b c : α) (h : PySem.W.dataLe false e a b = true) (k : PySem.W.dataLe false e b c = true) : PySem.W.dataLe false e a c = true := by
  have h' : (!tlt (PySem.W.keyToks (e b)) (PySem.W.keyToks (e a))) = true := h
  have k' : (!tlt (PySem.W.keyToks (e c)) (PySem.W.keyToks (e b))) = true := k
  show (!tlt (PySem.W.keyToks (e c)) (PySem.W.keyToks (e a))) = true
  simp only [Bool.not_eq_true'] at *
  exact tle_trans h' k'
theorem le_to {α : Type} {e : α → PyData} (a b : α) : (PySem.W.dataLe false e a b || PySem.W.dataLe false e b a) = true := by
  show ((!tlt (PySem.W.keyToks (e b)) (PySem.W.keyToks (e a))) || (!tlt (PySem.W.keyToks (e a)) (PySem.W.keyToks (e b)))) = true
  cases h : tlt (PySem.W.keyToks (e b)) (PySem.W.keyToks (e a)) with
  | false => rfl
  | true =>
    cases k : tlt (PySem.W.keyToks (e a)) (PySem.W.keyToks (e b)) with
    | false => rfl
    | true => have := tlt_trans h k; rw [tlt_irrefl] at this; cases this
theorem leG_anti (a b : List Str) (h : leG a b = true) (k : leG b a = true) : a = b := by
  have h' : (!tlt (PySem.W.keyToks (encR b)) (PySem.W.keyToks (encR a))) = true := h
  have k' : (!tlt (PySem.W.keyToks (encR a)) (PySem.W.keyToks (encR b))) = true := k
  simp only [Bool.not_eq_true'] at h' k'
  have e := tlt_total k' h'
  rw [toks_encR, toks_encR] at e
  exact (tR_inj (x := []) (y := []) (by rw [e])).1
def sortB (b : Bl) : Bl := b.mergeSort leG
theorem sortB_perm (b : Bl) : (sortB b).Perm b := List.mergeSort_perm _ _
theorem sortB_pw (b : Bl) : (sortB b).Pairwise (fun x y => leG x y = true) := List.pairwise_mergeSort (fun a b c => le_tr a b c) (fun a b => le_to a b) b
def allB (ms : List Str) : List Bl := ((parts ms).map sortB).mergeSort leB
theorem allB_mem {ms : List Str} {b : Bl} (h : b ∈ allB ms) : ∃ b0 ∈ parts ms, b = sortB b0 := by
  have z := (List.mergeSort_perm _ _).mem_iff.mp h
  obtain ⟨b0, h1, h2⟩ := List.mem_map.mp z
  exact ⟨b0, h1, h2.symm⟩
theorem allB_len (ms : List Str) : (allB ms).length = (prof ms.length).length := by
  unfold allB
  rw [List.length_mergeSort, List.length_map, parts_len]
theorem flat_perm {b c : Bl} (h : b.Perm c) : b.flatten.Perm c.flatten := h.flatten
theorem BlOk.perm {ms : List Str} {b c : Bl} (h : BlOk ms b) (p : c.Perm b) : BlOk ms c where
  ne := fun g hg => h.ne g (p.mem_iff.mp hg)
  nd := (flat_perm p).nodup_iff.mpr h.nd
  sub := fun m hm => h.sub m ((flat_perm p).mem_iff.mp hm)
  asc := fun g hg => h.asc g (p.mem_iff.mp hg)
theorem allB_ok {ms : List Str} (pw : ms.Pairwise slt) {b : Bl} (h : b ∈ allB ms) : BlOk ms b := by
  obtain ⟨b0, h1, rfl⟩ := allB_mem h
  exact (parts_ok pw h1).perm (sortB_perm b0)
theorem allB_pw {ms : List Str} {b : Bl} (h : b ∈ allB ms) : b.Pairwise (fun x y => leG x y = true) := by
  obtain ⟨b0, h1, rfl⟩ := allB_mem h
  exact sortB_pw b0
theorem allB_few {ms : List Str} (l : ms.length ≤ 5) {b : Bl} (h : b ∈ allB ms) : b.length ≤ 5 := by
  obtain ⟨b0, h1, rfl⟩ := allB_mem h
  rw [(sortB_perm b0).length_eq]
  exact (parts_few l).2 b0 h1
/-! ### thicker -/
def insideOne (g : List Str) (b : Bl) : Bool := if (!(g.map fun m => b.flatten.contains m).any id) = true then true else (b.map fun h => (g.map fun m => h.contains m).all id).any id
def thick (p q : Bl) : Bool := if (p.flatten.map fun m => !q.flatten.contains m).any id = true then false else (q.map fun g => insideOne g p).all id
theorem inside_iff {g : List Str} {b : Bl} : insideOne g b = true ↔ (∀ m ∈ g, m ∉ b.flatten) ∨ ∃ h ∈ b, ∀ m ∈ g, m ∈ h := by
  unfold insideOne
  by_cases c : (!(g.map fun m => b.flatten.contains m).any id) = true
  · rw [if_pos c]
    refine ⟨fun _ => .inl fun m hm z => ?_, fun _ => rfl⟩
    rw [Bool.not_eq_true', Bool.eq_false_iff] at c
    exact c (List.any_eq_true.mpr ⟨true, List.mem_map.mpr ⟨m, hm, by simpa using z⟩, rfl⟩)
  · rw [if_neg c]
    have c' : ∃ m ∈ g, m ∈ b.flatten := by
      have z : (g.map fun m => b.flatten.contains m).any id = true := by simpa using c
      obtain ⟨t, ht, rfl⟩ := List.any_eq_true.mp z
      obtain ⟨m, hm, e⟩ := List.mem_map.mp ht
      exact ⟨m, hm, by simpa using e⟩
    constructor
    · intro z
      obtain ⟨t, ht, e⟩ := List.any_eq_true.mp z
      obtain ⟨h, hh, rfl⟩ := List.mem_map.mp ht
      refine .inr ⟨h, hh, fun m hm => ?_⟩
      have y := List.all_eq_true.mp e _ (List.mem_map.mpr ⟨m, hm, rfl⟩)
      simpa using y
    · rintro (z | ⟨h, hh, z⟩)
      · obtain ⟨m, hm, k⟩ := c'
        exact absurd k (z m hm)
      · refine List.any_eq_true.mpr ⟨_, List.mem_map.mpr ⟨h, hh, rfl⟩, List.all_eq_true.mpr fun t ht => ?_⟩
        obtain ⟨m, hm, rfl⟩ := List.mem_map.mp ht
        simpa using z m hm
theorem thick_iff {p q : Bl} : thick p q = true ↔ (∀ m ∈ p.flatten, m ∈ q.flatten) ∧ ∀ g ∈ q, (∀ m ∈ g, m ∉ p.flatten) ∨ ∃ h ∈ p, ∀ m ∈ g, m ∈ h := by
  unfold thick
  by_cases c : (p.flatten.map fun m => !q.flatten.contains m).any id = true
  · rw [if_pos c]
    obtain ⟨t, ht, e⟩ := List.any_eq_true.mp c
    obtain ⟨m, hm, rfl⟩ := List.mem_map.mp ht
    refine ⟨fun z => (nomatch z), fun ⟨z, _⟩ => ?_⟩
    have y := z m hm
    simp only [id, Bool.not_eq_true', ← Bool.not_eq_true, List.contains_iff_mem] at e
    exact absurd y e
  · rw [if_neg c]
    have c' : ∀ m ∈ p.flatten, m ∈ q.flatten := fun m hm => by
      refine Classical.byContradiction fun z => c (List.any_eq_true.mpr ⟨_, List.mem_map.mpr ⟨m, hm, rfl⟩, ?_⟩)
      simp only [id, Bool.not_eq_true', ← Bool.not_eq_true, List.contains_iff_mem]
      exact z
    constructor
    · intro z
      refine ⟨c', fun g hg => inside_iff.mp ?_⟩
      exact List.all_eq_true.mp z _ (List.mem_map.mpr ⟨g, hg, rfl⟩)
    · rintro ⟨_, z⟩
      refine List.all_eq_true.mpr fun t ht => ?_
      obtain ⟨g, hg, rfl⟩ := List.mem_map.mp ht
      exact inside_iff.mpr (z g hg)
theorem bool_ext {a b : Bool} (h : a = true ↔ b = true) : a = b := by cases a <;> cases b <;> simp_all
theorem thick_perm {p p' q q' : Bl} (hp : p.Perm p') (hq : q.Perm q') : thick p q = thick p' q' := by
  refine bool_ext ?_
  rw [thick_iff, thick_iff]
  have f1 := fun m => (flat_perm hp).mem_iff (a := m)
  have f2 := fun m => (flat_perm hq).mem_iff (a := m)
  refine and_congr ⟨fun h m hm => (f2 m).mp (h m ((f1 m).mpr hm)), fun h m hm => (f2 m).mpr (h m ((f1 m).mp hm))⟩ ⟨fun h g hg => ?_, fun h g hg => ?_⟩
  · rcases h g (hq.mem_iff.mpr hg) with z | ⟨k, hk, z⟩
    · exact .inl fun m hm y => z m hm ((f1 m).mpr y)
    · exact .inr ⟨k, hp.mem_iff.mp hk, z⟩
  · rcases h g (hq.mem_iff.mp hg) with z | ⟨k, hk, z⟩
    · exact .inl fun m hm y => z m hm ((f1 m).mp y)
    · exact .inr ⟨k, hp.mem_iff.mpr hk, z⟩
theorem thick_refl (p : Bl) : thick p p = true := thick_iff.mpr ⟨fun m h => h, fun g hg => .inr ⟨g, hg, fun m h => h⟩⟩
theorem thick_nil (q : Bl) : thick [] q = true := thick_iff.mpr ⟨fun m h => (nomatch h), fun g hg => .inl fun m _ h => (nomatch h)⟩
theorem thick_single {p : Bl} {ms : List Str} (h : ∀ m ∈ p.flatten, m ∈ ms) : thick p (ms.map fun m => [m]) = true := by
  refine thick_iff.mpr ⟨fun m hm => List.mem_flatten.mpr ⟨[m], List.mem_map.mpr ⟨m, h m hm, rfl⟩, by simp⟩, fun g hg => ?_⟩
  obtain ⟨m, hm, rfl⟩ := List.mem_map.mp hg
  by_cases z : m ∈ p.flatten
  · obtain ⟨k, hk, y⟩ := List.mem_flatten.mp z
    exact .inr ⟨k, hk, fun a ha => by rw [List.mem_singleton.mp ha]; exact y⟩
  · exact .inl fun a ha => by rw [List.mem_singleton.mp ha]; exact z
theorem thick_trans {p q r : Bl} (h : thick p q = true) (k : thick q r = true) : thick p r = true := by
  rw [thick_iff] at *
  obtain ⟨h1, h2⟩ := h
  obtain ⟨k1, k2⟩ := k
  refine ⟨fun m hm => k1 m (h1 m hm), fun g hg => ?_⟩
  rcases k2 g hg with z | ⟨g', hg', z⟩
  · exact .inl fun m hm y => z m hm (h1 m y)
  · rcases h2 g' hg' with y | ⟨g2, hg2, y⟩
    · exact .inl fun m hm => y m (z m hm)
    · exact .inr ⟨g2, hg2, fun m hm => y m (z m hm)⟩
theorem one_group : ∀ {b : Bl}, b.flatten.Nodup → ∀ {g h : List Str}, g ∈ b → h ∈ b → ∀ {m : Str}, m ∈ g → m ∈ h → g = h
  | [], _, _, _, hg, _, _, _, _ => nomatch hg
  | c :: b, nd, g, h, hg, hh, m, mg, mh => by
    rw [List.flatten_cons, List.nodup_append] at nd
    obtain ⟨_, nb, dj⟩ := nd
    rcases List.mem_cons.mp hg with eg | hg2
    · rcases List.mem_cons.mp hh with eh | hh2
      · rw [eg, eh]
      · exact absurd rfl (dj m (eg ▸ mg) m (List.mem_flatten.mpr ⟨h, hh2, mh⟩))
    · rcases List.mem_cons.mp hh with eh | hh2
      · exact absurd rfl (dj m (eh ▸ mh) m (List.mem_flatten.mpr ⟨g, hg2, mg⟩))
      · exact one_group nb hg2 hh2 mg mh
theorem bl_nodup {ms : List Str} {b : Bl} (h : BlOk ms b) : b.Nodup := by
  have ne := h.ne
  have nd := h.nd
  clear h
  induction b with
  | nil => exact List.nodup_nil
  | cons g b ih =>
    rw [List.flatten_cons, List.nodup_append] at nd
    obtain ⟨_, nb, dj⟩ := nd
    refine List.nodup_cons.mpr ⟨fun hg => ?_, ih (fun k hk => ne k (List.mem_cons_of_mem _ hk)) nb⟩
    obtain ⟨m, hm⟩ := List.exists_mem_of_ne_nil _ (ne g List.mem_cons_self)
    exact dj m hm m (List.mem_flatten.mpr ⟨g, hg, hm⟩) rfl
theorem thick_in {ms : List Str} {p q : Bl} (hp : BlOk ms p) (hq : BlOk ms q) (h : thick p q = true) (k : thick q p = true) {g : List Str} (hg : g ∈ q) : g ∈ p := by
  rw [thick_iff] at h k
  obtain ⟨a, ha⟩ := List.exists_mem_of_ne_nil _ (hq.ne g hg)
  have aq : a ∈ q.flatten := List.mem_flatten.mpr ⟨g, hg, ha⟩
  rcases h.2 g hg with z | ⟨g1, h1, z1⟩
  · exact absurd (k.1 a aq) (z a ha)
  rcases k.2 g1 h1 with z | ⟨g2, h2, z2⟩
  · exact absurd aq (z a (z1 a ha))
  obtain rfl := one_group hq.nd hg h2 ha (z2 a (z1 a ha))
  have e : g = g1 := slt_eq (hq.asc g hg) (hp.asc g1 h1) fun m => ⟨z1 m, z2 m⟩
  rw [e]
  exact h1
theorem thick_anti {ms : List Str} {p q : Bl} (pw : ms.Pairwise slt) (hp : p ∈ allB ms) (hq : q ∈ allB ms) (h : thick p q = true) (k : thick q p = true) : p = q := by
  have op := allB_ok pw hp
  have oq := allB_ok pw hq
  have pm : p.Perm q := (List.perm_ext_iff_of_nodup (bl_nodup op) (bl_nodup oq)).mpr fun g => ⟨thick_in oq op k h, thick_in op oq h k⟩
  exact pm.eq_of_pairwise (le := fun x y => leG x y = true) (fun a b _ _ => leG_anti a b) (allB_pw hp) (allB_pw hq)
/-! ### the names of the marks -/
def namesS (b : Bl) : List (Str × Str) := b.flatMap fun g => g.map fun m => (m, g.headD "")
def nameOf (b : Bl) (m : Str) : Option Str := aGet (namesS b) m
def nameD (b : Bl) (m : Str) : Str := (nameOf b m).getD ""
theorem names_keys (b : Bl) : (namesS b).map (·.1) = b.flatten := by
  unfold namesS
  rw [List.map_flatMap, List.flatten_eq_flatMap]
  exact congrArg (fun f => b.flatMap f) (funext fun g => by rw [List.map_map]; exact List.map_id' g)
theorem nameOf_some {b : Bl} (nd : b.flatten.Nodup) {g : List Str} {m : Str} (hg : g ∈ b) (hm : m ∈ g) : nameOf b m = some (g.headD "") := by
  have inn : (m, g.headD "") ∈ namesS b := List.mem_flatMap.mpr ⟨g, hg, List.mem_map.mpr ⟨m, hm, rfl⟩⟩
  have k : m ∈ (namesS b).map (·.1) := List.mem_map.mpr ⟨_, inn, rfl⟩
  obtain ⟨a, ha⟩ := aGet_some.mpr k
  have ha' := ha
  unfold aGet at ha'
  obtain ⟨y, hy, rfl⟩ := Option.map_eq_some_iff.mp ha'
  have y1 : y.1 = m := by simpa using List.find?_some hy
  obtain ⟨g', hg', z⟩ := List.mem_flatMap.mp (List.mem_of_find?_eq_some hy)
  obtain ⟨m', hm', rfl⟩ := List.mem_map.mp z
  have e : m' = m := y1
  subst e
  obtain rfl := one_group nd hg hg' hm hm'
  exact ha
theorem nameOf_none {b : Bl} {m : Str} (h : m ∉ b.flatten) : nameOf b m = none := aGet_none.mpr (by rw [names_keys]; exact h)
def lawThick (ms : List Str) (p q : Bl) : Bool := if ms.filter (fun m => !q.flatten.contains m && p.flatten.contains m) ≠ [] then false else decide ((namesS q).filter (fun x => decide (nameD p x.1 ≠ nameD p x.2)) = [])
theorem headD_mem {g : List Str} (h : g ≠ []) : g.headD "" ∈ g := by
  cases g with
  | nil => exact absurd rfl h
  | cons a g => exact List.mem_cons_self
theorem lawThick_eq {ms : List Str} {p q : Bl} (hp : BlOk ms p) (hq : BlOk ms q) (no : ("" : Str) ∉ ms) : lawThick ms p q = thick p q := by
  refine bool_ext ?_
  rw [thick_iff]
  unfold lawThick
  have first : ms.filter (fun m => !q.flatten.contains m && p.flatten.contains m) = [] ↔ ∀ m ∈ p.flatten, m ∈ q.flatten := by
    rw [List.filter_eq_nil_iff]
    constructor
    · intro h m hm
      have z := h m (hp.sub m hm)
      simp only [Bool.and_eq_true, Bool.not_eq_true', ← Bool.not_eq_true, List.contains_iff_mem] at z
      exact Classical.byContradiction fun y => z ⟨y, hm⟩
    · intro h m _
      simp only [Bool.and_eq_true, Bool.not_eq_true', ← Bool.not_eq_true, List.contains_iff_mem]
      exact fun ⟨y, z⟩ => y (h m z)
  by_cases c : ms.filter (fun m => !q.flatten.contains m && p.flatten.contains m) = []
  · rw [if_neg (by simpa using c)]
    have c' := first.mp c
    rw [decide_eq_true_eq, List.filter_eq_nil_iff]
    have same : ∀ {g : List Str} {m : Str}, g ∈ q → m ∈ g → (¬ (decide (nameD p m ≠ nameD p (g.headD "")) = true) ↔ (m ∉ p.flatten ∧ g.headD "" ∉ p.flatten) ∨ ∃ h ∈ p, m ∈ h ∧ g.headD "" ∈ h) := by
      intro g m hg hm
      rw [decide_eq_true_eq, Classical.not_not]
      have has : ∀ {x : Str} {h : List Str}, h ∈ p → x ∈ h → nameD p x = h.headD "" := fun hh hx => by unfold nameD; rw [nameOf_some hp.nd hh hx]; rfl
      have hasnt : ∀ {x : Str}, x ∉ p.flatten → nameD p x = "" := fun hx => by unfold nameD; rw [nameOf_none hx]; rfl
      have nonE : ∀ {h : List Str}, h ∈ p → h.headD "" ≠ "" := fun hh e => no (by
        rw [← e]
        exact hp.sub _ (List.mem_flatten.mpr ⟨_, hh, headD_mem (hp.ne _ hh)⟩))
      by_cases m1 : m ∈ p.flatten
      · obtain ⟨h1, hh1, mh1⟩ := List.mem_flatten.mp m1
        rw [has hh1 mh1]
        by_cases m2 : g.headD "" ∈ p.flatten
        · obtain ⟨h2, hh2, mh2⟩ := List.mem_flatten.mp m2
          rw [has hh2 mh2]
          constructor
          · intro e
            have z : h1 = h2 := one_group hp.nd hh1 hh2 (headD_mem (hp.ne _ hh1)) (by rw [e]; exact headD_mem (hp.ne _ hh2))
            subst z
            exact .inr ⟨h1, hh1, mh1, mh2⟩
          · rintro (⟨z, _⟩ | ⟨h, hh, z1, z2⟩)
            · exact absurd m1 z
            · rw [one_group hp.nd hh1 hh mh1 z1, one_group hp.nd hh2 hh mh2 z2]
        · rw [hasnt m2]
          refine ⟨fun e => absurd e (nonE hh1), ?_⟩
          rintro (⟨z, _⟩ | ⟨h, hh, z1, z2⟩)
          · exact absurd m1 z
          · exact absurd (List.mem_flatten.mpr ⟨h, hh, z2⟩) m2
      · rw [hasnt m1]
        by_cases m2 : g.headD "" ∈ p.flatten
        · obtain ⟨h2, hh2, mh2⟩ := List.mem_flatten.mp m2
          rw [has hh2 mh2]
          refine ⟨fun e => absurd e.symm (nonE hh2), ?_⟩
          rintro (⟨_, z⟩ | ⟨h, hh, z1, z2⟩)
          · exact absurd m2 z
          · exact absurd (List.mem_flatten.mpr ⟨h, hh, z1⟩) m1
        · rw [hasnt m2]
          exact ⟨fun _ => .inl ⟨m1, m2⟩, fun _ => rfl⟩
    constructor
    · intro h
      refine ⟨c', fun g hg => ?_⟩
      have each : ∀ m ∈ g, (m ∉ p.flatten ∧ g.headD "" ∉ p.flatten) ∨ ∃ h ∈ p, m ∈ h ∧ g.headD "" ∈ h := fun m hm =>
        (same hg hm).mp (h (m, g.headD "") (List.mem_flatMap.mpr ⟨g, hg, List.mem_map.mpr ⟨m, hm, rfl⟩⟩))
      by_cases m2 : g.headD "" ∈ p.flatten
      · obtain ⟨k, hk, mk⟩ := List.mem_flatten.mp m2
        refine .inr ⟨k, hk, fun m hm => ?_⟩
        rcases each m hm with ⟨_, z⟩ | ⟨h, hh, z1, z2⟩
        · exact absurd m2 z
        · rw [one_group hp.nd hk hh mk z2]; exact z1
      · refine .inl fun m hm => ?_
        rcases each m hm with ⟨z, _⟩ | ⟨h, hh, z1, z2⟩
        · exact z
        · exact absurd (List.mem_flatten.mpr ⟨h, hh, z2⟩) m2
    · rintro ⟨_, h⟩ x hx
      obtain ⟨g, hg, z⟩ := List.mem_flatMap.mp hx
      obtain ⟨m, hm, rfl⟩ := List.mem_map.mp z
      refine (same hg hm).mpr ?_
      rcases h g hg with z | ⟨k, hk, z⟩
      · exact .inl ⟨z m hm, z _ (headD_mem (hq.ne g hg))⟩
      · exact .inr ⟨k, hk, z m hm, z _ (headD_mem (hq.ne g hg))⟩
  · rw [if_pos (by simpa using c)]
    exact ⟨fun z => (nomatch z), fun ⟨z, _⟩ => absurd (first.mpr z) c⟩
theorem nameD_perm {b c : Bl} (nd : b.flatten.Nodup) (p : c.Perm b) (m : Str) : nameD c m = nameD b m := by
  unfold nameD
  by_cases h : m ∈ b.flatten
  · obtain ⟨g, hg, hm⟩ := List.mem_flatten.mp h
    rw [nameOf_some nd hg hm, nameOf_some ((flat_perm p).nodup_iff.mpr nd) (p.mem_iff.mpr hg) hm]
  · rw [nameOf_none h, nameOf_none (fun z => h ((flat_perm p).mem_iff.mp z))]
theorem nameD_single {ms : List Str} (nd : ms.Nodup) {m : Str} : nameD (ms.map fun m => [m]) m = if m ∈ ms then m else "" := by
  have fl : (ms.map fun m => [m]).flatten = ms := by
    induction ms with
    | nil => rfl
    | cons a l ih => rw [List.map_cons, List.flatten_cons, ih (List.nodup_cons.mp nd).2]; rfl
  unfold nameD
  by_cases h : m ∈ ms
  · rw [if_pos h, nameOf_some (by rw [fl]; exact nd) (List.mem_map.mpr ⟨m, h, rfl⟩) (List.mem_singleton.mpr rfl)]
    rfl
  · rw [if_neg h, nameOf_none (by rw [fl]; exact h)]
    rfl
theorem nameD_in {ms : List Str} {b : Bl} (h : BlOk ms b) (m : Str) : nameD b m = "" ∨ nameD b m ∈ ms := by
  unfold nameD
  by_cases c : m ∈ b.flatten
  · obtain ⟨g, hg, hm⟩ := List.mem_flatten.mp c
    rw [nameOf_some h.nd hg hm]
    exact .inr (h.sub _ (List.mem_flatten.mpr ⟨g, hg, headD_mem (h.ne g hg)⟩))
  · rw [nameOf_none c]
    exact .inl rfl
end TW
set_option Elab.async false
set_option linter.all false
set_option maxRecDepth 100000
set_option maxHeartbeats 8000000
/-! Wall: its marks, == -/
namespace TW
open PySem PySem.Spec PyProof.Rows L2 RZ StX
open Evl (Ex)
theorem hu65_B {A : Around} {k : Nat} (hr : L2.Room k A) : A.units + 65 < cLine := by have := hr.un; omega
/-! ### what a class says of a property, of == -/
structure PrC (P : Program) (w : World) (K : PySem.W.Frag) (mg : Str → Option Value) (base : Heap) (C : Addr) (name : Str) (k : Nat) (sp : Sp) : Prop where
  cl : Cls K C
  ex : ∃ (p g : Addr) (fd : FuncData), PropOf K C name p g ∧ L2.FnOk P w K mg base CX0 k g fd ["self"] sp ∧ Binds K fd ["self"] []
structure EqC (P : Program) (w : World) (K : PySem.W.Frag) (mg : Str → Option Value) (base : Heap) (C : Addr) (k : Nat) (R : Addr → Addr → Hp → Prop) : Prop where
  ex : ∃ (f : Addr) (fd : FuncData) (ps : List Str), L2.FnOk P w K mg base CX0 k f fd ps (spEq R) ∧ PySem.W.findIn K (.ref C) "__eq__" = some (some (.ref f)) ∧ PySem.W.isFn K (.ref f) = true ∧ Binds K fd ps []
section
variable {X : Cx} {C : Addr} {name : Str} {k : Nat} {sp : Sp} {R : Addr → Addr → Hp → Prop} {e : Expr} {te : TE} {pos : Pos}
theorem pe_prp (c : PrC X.prog X.w X.K X.mg X.base C name k sp) (room : L2.Room (k + 1) X.A) (he : PE X e te) (hab : attributeBase e name X.env (eval e X.env) = eval e X.env := by rfl) : PE X (.Attribute e name pos) (tProp C sp [] E0 te) := by
  obtain ⟨p, g, fd, is_p, F, b⟩ := c.ex
  exact pe_prop he c.cl is_p F room b .nil pass0 hab
theorem op_own (c : EqC X.prog X.w X.K X.mg X.base C k R) (room : L2.Room k X.A) : OpR X (compareOp .Eq) (rEqG (DIns C R)) := by
  obtain ⟨f, fd, ps, F, h1, h2, b⟩ := c.ex
  exact op_eqG (rcG_ins F h1 h2 b pass0) room
end
def spWaM (K : PySem.W.Frag) (C : Addr) : Sp := fun vs H Q _ => ∃ (F : Hp) (x : Addr) (s : WaD), vs = [.ref x] ∧ Sees F H ∧ WaAt K C F x s ∧ WaFree C F H x ∧ s.ks.length ≤ 1000 ∧ ∀ (D : Addr) (kvs : List (Key × V)) F' H', Gr [] F H F' H' → F' D = some (.dK kvs) → H' D = some (.dK kvs) → Tells K F' kvs s.ks s.m .tuple → Q (.ref D) H'
/-- the marks of two walls are the same -/
def SameW (K : PySem.W.Frag) (C : Addr) (x y : Addr) (H : Hp) : Prop := ∃ (F : Hp) (s s' : WaD), Sees F H ∧ WaAt K C F x s ∧ WaAt K C F y s' ∧ WaFree C F H x ∧ WaFree C F H y ∧ s.ks.Perm s'.ks ∧ (∀ k ∈ s.ks, s.m k = s'.m k ∧ ∀ z ∈ s.m k, PyData.strOk z = true)
theorem shaped_strs {l : List Str} (h : ∀ z ∈ l, PyData.strOk z = true) : SeqAt.shaped (.tuple (l.map .str)) = true := by
  have q := flat1_lay (ds := l.map .str) fun d hd => by
    obtain ⟨z, hz, rfl⟩ := List.mem_map.mp hd
    exact h z hz
  obtain ⟨q1, q2⟩ := q
  simp [SeqAt.shaped, PyData.canLay0, PyData.depth, q1]
  omega
theorem eqv_strs {l : List Str} (h : ∀ z ∈ l, PyData.strOk z = true) : PyData.eqv (.tuple (l.map .str)) (.tuple (l.map .str)) = true := SeqAt.eqv_refl _ (SeqAt.canLay_of_shaped (shaped_strs h))
/-- two dicts that tell the same tuples -/
theorem alike_tells {K : PySem.W.Frag} {F H : Hp} {ks ls : List (Key × V)} {a b : List Str} {m m' : Str → List Str} (s : Sees F H) (h1 : Tells K F ks a m .tuple) (h2 : Tells K F ls b m' .tuple) (pm : a.Perm b) (same : ∀ k ∈ a, m k = m' k ∧ ∀ z ∈ m k, PyData.strOk z = true) (nd : a.Nodup) : ks.length = ls.length ∧ AlikeD K H ks ls := by
  refine ⟨by rw [tells_len h1, tells_len h2, pm.length_eq], fun p hp => ?_⟩
  have k1 : p.1 ∈ a.map Sum.inr := by rw [← h1.ke]; exact List.mem_map_of_mem hp
  obtain ⟨k, hk, e⟩ := List.mem_map.mp k1
  obtain ⟨v1, e1, d1⟩ := h1.va k hk
  obtain ⟨v2, e2, d2⟩ := h2.va k (pm.mem_iff.mp hk)
  obtain ⟨sm, ok⟩ := same k hk
  have ndk : (ks.map (·.1)).Nodup := by rw [h1.ke]; exact List.pairwise_map.mpr (nd.imp fun n z => n (Sum.inr.inj z))
  have z := val_nodup ndk p hp
  rw [← e, e1] at z
  cases z
  refine ⟨v2, _, by rw [← e]; exact e2, d1.sees s, ?_, shaped_strs ok, eqv_strs ok⟩
  rw [sm]
  exact d2.sees s
section
variable {P : Program} {w : World} {K : PySem.W.Frag} {mg : Str → Option Value} {base : Heap}
theorem ok_Wall_marks {f C : Addr} {fd : FuncData} (F : Fun K "marks" "Wall.marks" s_Wall_marks f fd) (TW_ : WaC K C) : L2.FnOk P w K mg base CX0 1 f fd ["self"] (spWaM K C) := by
  refine L2.Fun.ok F sc_Wall_marks (fun vs H Q E h => ?_) (fun cdv A outer s H vs Q E hr h => ?_)
  · obtain ⟨F0, x, s, rfl, _⟩ := h
    rfl
  · obtain ⟨F0, x, s, rfl, fs, ⟨⟨dx, D, vs, va, kvs, hx, hD, tl, hva⟩, ok⟩, free, few, q⟩ := h
    have hD' := free _ _ _ _ _ hx hD
    have hu := L2.hu_of hr
    refine ⟨_, (pss_one (ps_ret (pe_lock (pe_dc (own := [("sound", 1)]) rfl sc_Wall_marks.nd (pi_keys (zfld K (pv 0))) (blkOk_by (N := sc_Wall_marksN) (sc := defScope s_Wall_marks) (by decide +kernel)) (fun _ _ _ _ _ => (zg (i := 1) sc_Wall_marks.nd)) (fun _ _ _ _ _ => pts_nil) (fun _ _ _ _ _ => (pv 1)) (fun _ _ _ _ _ => (pe_dget hu (zfld K (pv 0)) (pv 1) (fun _ _ => rfl))))))), ?_⟩
    have lk := tells_len tl
    have xD : x ≠ D := fun e => by rw [e, hD] at hx; cases hx
    refine ⟨D, _, hD', True.intro, fun od => ?_⟩
    have na : upd H D (.frz od (.dK kvs)) D = some (.frz od (.dK kvs)) := upd_same
    have hx' : upd H D (.frz od (.dK kvs)) x = some _ := (upd_ne xD).trans (sees_i fs hx)
    refine ⟨_, rfl, x, C, dx, _, _, rfl, hx', TW_.cl, TW_.nM, rfl, ?_⟩
    refine ⟨D, od, rfl, .inl ⟨kvs, na, fun G hG => ?_⟩⟩
    refine dc_st walk_keys (sees_lock fs hD) (fun i acc F' H' => Tells K F' acc (s.ks.take i) s.m .tuple) (fun _ _ _ _ _ h _ _ => h) (fun i acc F' H' _ gr _ => gr.at na) ⟨rfl, by simp⟩ (by rw [lk]; omega) (fun i acc x' F' H' H'' hi hl gr fE hEc pv y => ?_) hG fun acc F' H' gr fE hEc pv => ?_
    · obtain ⟨rfl, k, v, e1, rfl⟩ := y
      have hi' : i < s.ks.length := by rw [← lk]; exact hi
      have hb : s.ks[i]? = some s.ks[i] := List.getElem?_eq_getElem hi'
      generalize s.ks[i] = b at hb
      obtain rfl := tells_at tl e1 hb
      obtain ⟨v', v1, v2⟩ := tl.va b (List.mem_of_getElem? hb)
      exact ⟨F', Gr.refl gr.fh, turnD1 rfl fun Yes h => ⟨_, rfl, _, rfl, x, C, dx, _, _, rfl, gr.at hx', TW_.cl, TW_.nM, rfl, _, rfl, D, v', rfl, .inl ⟨kvs, Sum.inr b, .inr ⟨od, gr.at na⟩, rfl, v1.symm⟩, h (Sum.inr b) v' F' _ (Gr.refl gr.fh) (tells_put pv ok.nd hb (v2.ex gr.ff))⟩⟩
    · rw [lk, List.take_length] at pv
      have nGD : G ≠ D := ne_of hEc (gr.at na) (fun z => nomatch z)
      exact ⟨gr.at na, q G acc _ _ (Gr.unlock hD hD' (gr.done hG fE hEc)) upd_same (by rw [upd_ne nGD]; exact hEc) (pv.ex (Ex.new fE))⟩
theorem ok_Wall_eq {f C : Addr} {fd : FuncData} (F : Fun K "__eq__" "Wall.__eq__" s_Wall___eq__ f fd) (T : Txt mg) (g_Wall : mg "Wall" = some (.ref C)) (IW : InsC K C) (TW_ : WaC K C) : L2.FnOk P w K mg base CX0 1 f fd ["self", "other"] (spEq (SameW K C)) := by
  refine L2.Fun.ok F sc_Wall___eq__ (fun vs H Q E h => ?_) (fun cdv A outer s H vs Q E hr h => ?_)
  · obtain ⟨x, y, rfl, _⟩ := h
    rfl
  · obtain ⟨x, y, rfl, ⟨F0, s, s', fs, ⟨⟨dx, D, vs, va, kvs, hx, hD, tl, _⟩, ok⟩, ⟨⟨dy, D', vs', va', kvs', hy, hD', tl', _⟩, ok'⟩, free, free', pm, same⟩, q⟩ := h
    have hu64 := hu65_B hr
    refine ⟨_, (pss_one (ps_ret (pe_and (pe_callB (cr_isi K) (by rfl) T.isinstance bt_isinstance (pa_cons (pv 1) (pa_cons (zown g_Wall) pa_nil))) (pe_one (pe_cmpR (op_eqU K hu64) (zfld K (pv 0)) (zfld K (pv 1)) (nomark _)))))), ?_⟩
    obtain ⟨few, each⟩ := alike_tells fs tl tl' pm same ok.nd
    refine ⟨_, rfl, isi_own IW (sees_i fs hy) ⟨_, rfl, iteT ?_⟩⟩
    exact ⟨_, rfl, x, C, dx, _, _, rfl, sees_i fs hx, TW_.cl, TW_.nM, rfl, _, rfl, y, C, dy, _, _, rfl, sees_i fs hy, TW_.cl, TW_.nM, rfl, .mk ⟨D, D', kvs, kvs', rfl, rfl, free _ _ _ _ _ hx hD, free' _ _ _ _ _ hy hD', few, each, q H Ext.rfl'⟩⟩
end
end TW
set_option Elab.async false
set_option linter.all false
set_option maxRecDepth 100000
set_option maxHeartbeats 8000000
/-! blends of a wall -/
namespace TW
open PySem PySem.Spec PyProof.Rows L2 RZ StX
open Evl (Ex)
def encLG (g : List Str) : PyData := .list (g.map .str)
def encLB (b : Bl) : PyData := .list (b.map encLG)
theorem BlOk.flat {ms : List Str} {b : Bl} (h : BlOk ms b) : b.flatten.length ≤ ms.length := nodup_le h.nd h.sub
theorem BlOk.each {ms : List Str} {b : Bl} (h : BlOk ms b) {g : List Str} (hg : g ∈ b) : g.length ≤ ms.length := Nat.le_trans (List.sublist_flatten_of_mem hg).length_le h.flat
theorem BlOk.few {ms : List Str} {b : Bl} (h : BlOk ms b) : b.length ≤ ms.length := by
  refine Nat.le_trans ?_ h.flat
  have ne := h.ne
  clear h
  induction b with
  | nil => exact Nat.zero_le _
  | cons g b ih =>
    have z := ih fun k hk => ne k (List.mem_cons_of_mem _ hk)
    have pos : 0 < g.length := List.length_pos_iff.mpr (ne g List.mem_cons_self)
    rw [List.flatten_cons, List.length_append, List.length_cons]
    omega
theorem len_fm {α β : Type} (f : α → List β) (n : Nat) : ∀ (l : List α), (∀ x ∈ l, (f x).length ≤ n) → (l.flatMap f).length ≤ l.length * n
  | [], _ => by simp
  | a :: l, h => by
    have z := len_fm f n l fun x hx => h x (List.mem_cons_of_mem _ hx)
    have y := h a List.mem_cons_self
    rw [List.flatMap_cons, List.length_append, List.length_cons, Nat.succ_mul]
    omega
theorem more_few (m : Str) (b : Bl) : (oneMore m b).length = b.length + 2 := by simp [oneMore]
theorem glen_go : ∀ (ms : List Str) (n : Nat) (found : List Bl), (∀ b ∈ found, ∀ g ∈ b, g.length ≤ n) → ∀ b ∈ ms.foldl (fun found m => found.flatMap (oneMore m)) found, ∀ g ∈ b, g.length ≤ n + ms.length
  | [], _, _, h => h
  | m :: ms, n, found, h => by
    rw [List.length_cons, show n + (ms.length + 1) = (n + 1) + ms.length by omega]
    refine glen_go ms (n + 1) _ fun c hc g hg => ?_
    obtain ⟨b, hb, hc⟩ := List.mem_flatMap.mp hc
    have hb := h b hb
    unfold oneMore at hc
    rcases List.mem_cons.mp hc with rfl | hc
    · exact Nat.le_succ_of_le (hb g hg)
    rcases List.mem_cons.mp hc with rfl | hc
    · rcases List.mem_append.mp hg with hg | hg
      · exact Nat.le_succ_of_le (hb g hg)
      · rw [List.mem_singleton.mp hg]; show 1 ≤ n + 1; omega
    obtain ⟨i, hi, rfl⟩ := List.mem_map.mp hc
    obtain ⟨p, k, s, e1, e2, e3, e4⟩ := split_at (List.mem_range.mp hi)
    rw [e2, e3, e4] at hg
    rw [e1] at hb
    simp only [List.mem_append, List.mem_singleton] at hg
    rcases hg with (hg | rfl) | hg
    · exact Nat.le_succ_of_le (hb g (by simp [hg]))
    · have := hb k (by simp)
      rw [List.length_append]
      show k.length + 1 ≤ n + 1
      omega
    · exact Nat.le_succ_of_le (hb g (by simp [hg]))
theorem parts_g {ms : List Str} {b : Bl} (hb : b ∈ parts ms) {g : List Str} (hg : g ∈ b) : g.length ≤ ms.length := by
  have z := glen_go ms 0 [[]] (fun b hb g hg => by rw [List.mem_singleton.mp hb] at hg; exact nomatch hg) b hb g hg
  omega
/-- a list at L that grows by blends -/
structure PLst (K : PySem.W.Frag) (F H F' H' : Hp) (L : Addr) (acc : List V) (bs : List Bl) : Prop where
  g : Gr [] F H F' H'
  n0 : H L = none
  f : F' L = none
  h : H' L = some (.lst acc)
  d : DpAll K F' acc (bs.map encLB)
section
variable {K : PySem.W.Frag} {F H F' H' F2 H2 : Hp} {L : Addr} {acc : List V} {bs : List Bl} {b : Bl} {y : V}
theorem PLst.len (S : PLst K F H F' H' L acc bs) : acc.length = bs.length := by rw [S.d.length, List.length_map]
theorem PLst.gr (S : PLst K F H F' H' L acc bs) (g : Gr [] F' H' F2 H2) : PLst K F H F2 H2 L acc bs :=
  ⟨S.g.trans g, S.n0, g.none' S.f (by rw [S.h]; exact fun z => nomatch z), g.at S.h, S.d.ex g.ff⟩
theorem PLst.app (S : PLst K F H F' H' L acc bs) (hy : Dp K F' y (encLB b)) : PLst K F H F' (upd H' L (.lst (acc ++ [y]))) L (acc ++ [y]) (bs ++ [b]) :=
  ⟨S.g.mut S.f (.inr S.n0), S.n0, S.f, upd_same, by rw [List.map_append]; exact S.d.append (.cons hy .nil)⟩
end
theorem cut_bl (b : Bl) (k : Nat) : cutD (b.map encLG) none (some (k : Int)) = (b.take k).map encLG := by rw [cutD_to, List.map_take]
theorem cut_bl' (b : Bl) (k : Nat) : cutD (b.map encLG) (some ((k : Int) + 1)) none = (b.drop (k + 1)).map encLG := by rw [show (k : Int) + 1 = ((k + 1 : Nat) : Int) by omega, cutD_from, List.map_drop]
def spParted (K : PySem.W.Frag) : Sp := fun vs H Q _ => ∃ (F : Hp) (v : V) (d : PyData) (ms : List Str), vs = [v] ∧ Sees F H ∧ Dp K F v d ∧ isSeq d (ms.map .str) ∧ ms.length ≤ 5 ∧ ∀ r F' H', Gr [] F H F' H' → Dp K F' r (.list ((parts ms).map encLB)) → Q r H'
section
variable {P : Program} {w : World} {K : PySem.W.Frag} {mg : Str → Option Value} {base : Heap}
theorem ok_parted {f : Addr} {fd : FuncData} (F : Fun K "parted" "parted" s_parted f fd) (T : Txt mg) : FnOk P w K mg base CX0 1 f fd ["marks"] (spParted K) := by
  refine F.ok sc_parted (fun vs H Q E h => ?_) (fun cdv A outer s H vs Q E hr h => ?_)
  · obtain ⟨F0, v, d, ms, rfl, _⟩ := h
    rfl
  · obtain ⟨F0, v, d, ms, rfl, fs, hv, hq, l5, q⟩ := h
    refine ⟨_, (pss_cons (zs (i := 1) sc_parted.nd (pe_lst (pa_cons (pe_lst pa_nil) pa_nil)))
      (pss_cons (ps_for PassesOwn.never rfl (zseq K (pv 0)) (zg (i := 2) sc_parted.nd)
        (pss_cons (zs (i := 3) sc_parted.nd (pe_lst pa_nil))
        (pss_cons (ps_for PassesOwn.never rfl (zseq K (pv 1)) (zg (i := 4) sc_parted.nd)
          (pss_cons (ps_expr (pe_bm PySem.F.plainAttrs_list PySem.F.slot_list_append PySem.F.type_list_append mt_append (pv 3) (pa_cons (pv 4) pa_nil)))
          (pss_cons (ps_expr (pe_bm PySem.F.plainAttrs_list PySem.F.slot_list_append PySem.F.type_list_append mt_append (pv 3) (pa_cons (pe_lst (zstar K (pv 4) (pa_cons (pe_lst (pa_cons (pv 2) pa_nil)) pa_nil))) pa_nil)))
          (pss_one (ps_for PassesOwn.never rfl (pi_enumD K T.enumerate (pa_cons (pv 4) pa_nil)) (zpg (n := 2) K (pgs_cons (zg (i := 5) sc_parted.nd) (pgs_cons (zg (i := 6) sc_parted.nd) pgs_nil)))
            (pss_one (ps_expr (pe_bm PySem.F.plainAttrs_list PySem.F.slot_list_append PySem.F.type_list_append mt_append (pv 3) (pa_cons (pe_lst (zstar K (pe_slice (sl_LA K) (pv 4) po_none (po_some (pv 5))) (pa_cons (pe_lst (zstar K (pv 6) (pa_cons (pv 2) pa_nil))) (zstar K (pe_slice (sl_LA K) (pv 4) (po_some (pe_op op_add (pv 5) pe_int)) po_none) pa_nil)))) pa_nil)))))))))
        (pss_one (zs (i := 1) sc_parted.nd (pv 3))))))
      (pss_one (ps_ret (pv 1))))), ?_⟩
    have lz : 100000 < sizeLine := by rw [sizeLine_eq]; decide
    refine ⟨Nat.zero_le _, fun p0 hp0 => ⟨by show 1 ≤ sizeLine; omega, fun p1 hp1 => ?_⟩⟩
    have g1 := ((Gr.refl (B := []) fs).new (o := .lst []) hp0).new (o := .lst [.ref p0]) hp1
    have d1 : Dp K (upd (upd F0 p0 (.lst [])) p1 (.lst [.ref p0])) (.ref p1) (.list ((parts []).map encLB)) := .lst (.inl (.inl upd_same)) (.cons (.lst (.inl (.inl (by rw [upd_ne (ne_of_none (upd_same : upd H p0 (.lst []) p0 = _) hp1)]; exact upd_same))) .nil) .nil)
    generalize upd (upd F0 p0 (.lst [])) p1 (.lst [.ref p0]) = F1 at g1 d1
    generalize upd (upd H p0 (.lst [])) p1 (.lst [.ref p0]) = H1 at g1 ⊢
    refine ⟨_, rfl, seq_walk (hv.ex g1.ff) hq g1.fh fun J xs G w1 hG hxs hlen => ?_⟩
    rw [hlen, List.length_map] at w1
    refine for_it w1 (fun i σ' H' => ∃ (o2 o3 o4 o5 o6 : Option V) (Fn : Addr) (F' : Hp), σ' = [some v, some (.ref Fn), o2, o3, o4, o5, o6] ∧ Gr [] F0 H F' H' ∧ Ex F1 F' ∧ Dp K F' (.ref Fn) (.list ((parts (ms.take i)).map encLB)))
      ⟨none, none, none, none, none, p1, F1, rfl, g1, Ex.refl _, d1⟩ (fun i σ' H' _ ⟨_, _, _, _, _, _, F', _, g, ex, _⟩ => hG H' fun a o e => g.fh a o (ex a o e)) ?_ ?_
    · rintro i y σ' H2 H3 hi ⟨o2, o3, o4, o5, o6, Fn, F2, rfl, g2, ex2, d2⟩ ⟨rfl, hyi⟩
      obtain ⟨dd, k1, k2⟩ := hxs.get hyi
      rw [List.getElem?_map] at k1
      obtain ⟨m, hm, rfl⟩ := Option.map_eq_some_iff.mp k1
      rw [dp_str] at k2
      subst k2
      have tk : ms.take (i + 1) = ms.take i ++ [m] := by rw [List.take_add_one, hm]; rfl
      have li : (ms.take i).length ≤ 5 := by rw [List.length_take]; omega
      obtain ⟨few1, few2⟩ := parts_few li
      refine ⟨Nat.zero_le _, fun L hL => ?_⟩
      have S0 : PLst K F0 H F2 (upd H3 L (.lst [])) L [] [] := ⟨g2.newM hL, g2.dm _ hL, g2.fh.dm hL, upd_same, .nil⟩
      generalize upd H3 L (.lst []) = H4 at S0 ⊢
      dsimp only [List.set_cons_zero, List.set_cons_succ]
      refine ⟨_, rfl, seq_walk d2 (.inl rfl) S0.g.fh fun J2 xs2 G2 w2 hG2 hxs2 hlen2 => ?_⟩
      rw [hlen2, List.length_map] at w2
      generalize hB : parts (ms.take i) = B at d2 hxs2 w2 few1 few2
      refine for_it w2 (fun j σ' H' => ∃ (o4 o5 o6 : Option V) (F' : Hp) (acc : List V), σ' = [some v, some (.ref Fn), some (.str m), some (.ref L), o4, o5, o6] ∧ PLst K F0 H F' H' L acc ((B.take j).flatMap (oneMore m)) ∧ Ex F2 F')
        ⟨o4, o5, o6, F2, [], rfl, by simpa using S0, Ex.refl _⟩ (fun j σ' H' _ ⟨_, _, _, F', _, _, S, ex⟩ => hG2 H' fun a o e => S.g.fh a o (ex a o e)) ?_ ?_
      · rintro j y σ' H5 H6 hj ⟨o4, o5, o6, F5, acc, rfl, S, ex⟩ ⟨rfl, hyj⟩
        obtain ⟨dd, k1, k2⟩ := hxs2.get hyj
        rw [List.getElem?_map] at k1
        obtain ⟨b, hb, rfl⟩ := Option.map_eq_some_iff.mp k1
        have bB := List.mem_of_getElem? hb
        have tkB : B.take (j + 1) = B.take j ++ [b] := by rw [List.take_add_one, hb]; rfl
        have lacc : ∀ {k : Nat} {x : List Bl} {F6 H7 : Hp} {acc' : List V}, PLst K F0 H F6 H7 L acc' ((B.take j).flatMap (oneMore m) ++ x) → x.length ≤ 7 → acc'.length < sizeLine := fun {_ x _ _ _} S hx => by
          have z := len_fm (oneMore m) 7 (B.take j) fun x hx => by rw [more_few]; have := few2 x (List.mem_of_mem_take hx); omega
          have z2 : (B.take j).length ≤ 203 := by rw [List.length_take]; omega
          have z3 := S.len
          rw [List.length_append] at z3
          have z4 : (B.take j).length * 7 ≤ 203 * 7 := Nat.mul_le_mul_right 7 z2
          omega
        have lb := few2 b bB
        have hy := k2.ex ex
        clear k2
        dsimp only [List.set_cons_zero, List.set_cons_succ]
        refine ⟨_, rfl, .inl ⟨rfl, acc, .inl (.inl S.h)⟩, _, rfl, L, acc, y, rfl, rfl, S.h, lacc (k := 0) (x := []) (by rw [List.append_nil]; exact S) (by simp), ?_⟩
        have S1 := S.app hy
        generalize upd H6 L (.lst (acc ++ [y])) = H7 at S1 ⊢
        generalize acc ++ [y] = acc1 at S1
        refine ⟨_, rfl, .inl ⟨rfl, acc1, .inl (.inl S1.h)⟩, ?_⟩
        obtain ⟨ya, ys, rfl, hys, dys⟩ := dp_list (show Dp K F5 y (.list (b.map encLG)) from hy)
        refine ⟨_, rfl, ya, ys, rfl, .inr (sees_l S1.g.fh hys), ⟨_, rfl, by show 1 ≤ sizeLine; omega, fun a ha => ⟨?_, fun c hc => ⟨L, acc1, .ref c, rfl, rfl, ?_⟩⟩⟩⟩
        · rw [List.length_append, dys.length, List.length_map]
          show b.length + 1 ≤ sizeLine
          omega
        have gA := ((Gr.refl (B := []) S1.g.fh).new (o := .lst [.str m]) ha).new (o := .lst (ys ++ [.ref a])) hc
        have S2 := S1.gr gA
        have hy2 := hy.ex gA.ff
        have d2' : Dp K (upd (upd F5 a (.lst [.str m])) c (.lst (ys ++ [.ref a]))) (.ref c) (encLB (b ++ [[m]])) := by
          refine .lst (.inl (.inl upd_same)) ?_
          rw [List.map_append]
          exact (dys.ex gA.ff).append (.cons (.lst (.inl (.inl (by rw [upd_ne (ne_of_none (upd_same : upd H7 a (.lst [.str m]) a = _) hc)]; exact upd_same))) (.cons (.str m) .nil)) .nil)
        have exA := ex.trans gA.ff
        generalize upd (upd F5 a (.lst [.str m])) c (.lst (ys ++ [.ref a])) = F8 at gA S2 hy2 d2' exA
        generalize upd (upd H7 a (.lst [.str m])) c (.lst (ys ++ [.ref a])) = H8 at gA S2 ⊢
        refine ⟨S2.h, lacc (k := 0) (x := [b]) S2 (by simp), ?_⟩
        have S3 := S2.app d2'
        generalize upd H8 L (.lst (acc1 ++ [.ref c])) = H9 at S3 ⊢
        generalize acc1 ++ [V.ref c] = acc3 at S3
        clear S1 S2 hys dys gA ha hc S
        -- the groups, one by one
        refine ⟨_, rfl, enum_walk hy2 (.inl rfl) S3.g.fh fun J3 xs3 G3 w3 hG3 hxs3 hlen3 => ?_⟩
        rw [hlen3, List.length_map] at w3
        refine for_it w3 (fun k σ' H' => ∃ (o5 o6 : Option V) (F' : Hp) (acc : List V), σ' = [some v, some (.ref Fn), some (.str m), some (.ref L), some (.ref ya), o5, o6] ∧
            PLst K F0 H F' H' L acc ((B.take j).flatMap (oneMore m) ++ (b :: (b ++ [[m]]) :: (List.range k).map fun i => b.take i ++ [b.getD i [] ++ [m]] ++ b.drop (i + 1))) ∧ Ex F8 F')
          ⟨o5, o6, F8, acc3, rfl, by simpa using S3, Ex.refl _⟩ (fun k σ' H' _ ⟨_, _, F', _, _, S, ex⟩ => hG3 H' fun a o e => S.g.fh a o (ex a o e)) ?_ ?_
        · rintro k y σ' H10 H11 hk ⟨o5, o6, F10, acc, rfl, S, ex3⟩ ⟨T1, x1, y1, rfl, hT1, rfl, h1, h2⟩
          cases h1
          have h2 : xs3[k]? = some y1 := h2
          obtain ⟨dd, k1, k2⟩ := hxs3.get h2
          rw [List.getElem?_map] at k1
          obtain ⟨g, hg, rfl⟩ := Option.map_eq_some_iff.mp k1
          have gT := (Gr.refl (B := []) S.g.fh).new (o := .tup [.int (k : Nat), y1]) hT1
          have S4 := S.gr gT
          have hT : SqT K (upd H10 T1 (.tup [.int (k : Nat), y1])) T1 [.int (k : Nat), y1] := .inl (.inl upd_same)
          have ex4 := ex3.trans gT.ff
          generalize upd H10 T1 (.tup [.int (k : Nat), y1]) = H12 at gT S4 hT ⊢
          generalize upd F10 T1 (.tup [.int (k : Nat), y1]) = F12 at gT S4 ex4
          refine ⟨T1, _, rfl, hT, rfl, _, _, rfl, _, _, rfl, rfl, ?_⟩
          dsimp only [List.set_cons_zero, List.set_cons_succ]
          have hy4 : Dp K F12 (.ref ya) (.list (b.map encLG)) := hy2.ex ex4
          have hg4 : Dp K F12 y1 (encLG g) := k2.ex ex4
          clear k2
          have bg : b.getD k [] = g := by rw [List.getD_eq_getElem?_getD, hg]; rfl
          have lk : k < b.length := by obtain ⟨z, _⟩ := List.getElem?_eq_some_iff.mp hg; exact z
          refine ⟨_, rfl, .inl ⟨rfl, acc, .inl (.inl S4.h)⟩, _, rfl, _, rfl, _, rfl, slQ_dp hy4 (.inl rfl) S4.g.fh fun r1 e1 F13 H13 g13 tw1 hr1 => ?_⟩
          obtain rfl : e1 = .list ((b.take k).map encLG) := by
            rcases tw1 with ⟨_, z⟩ | ⟨z, _⟩
            · rw [z, cut_bl]
            · cases z
          obtain ⟨p1', zs, rfl, hzs, dzs⟩ := dp_list hr1
          have S5 := S4.gr g13
          obtain ⟨pg, gs, rfl, hgs, dgs⟩ := dp_list (show Dp K F13 y1 (.list (g.map .str)) from hg4.ex g13.ff)
          rw [dps_str] at dgs
          subst dgs
          refine ⟨p1', zs, rfl, .inr (sees_l S5.g.fh hzs), _, rfl, pg, _, rfl, .inr (sees_l S5.g.fh hgs), _, rfl, ?_, fun a ha => ?_⟩
          · have z := parts_g (hB ▸ bB : b ∈ parts (ms.take i)) (List.mem_of_getElem? hg)
            rw [List.length_append, List.length_map]
            show g.length + 1 ≤ sizeLine
            omega
          have gA := (Gr.refl (B := []) S5.g.fh).new (o := .lst (g.map V.str ++ [.str m])) ha
          have S6 := S5.gr gA
          have dA : Dp K (upd F13 a (.lst (g.map V.str ++ [.str m]))) (.ref a) (encLG (g ++ [m])) := .lst (.inl (.inl upd_same)) (by rw [show g.map V.str ++ [V.str m] = (g ++ [m]).map V.str by rw [List.map_append]; rfl]; exact dps_str.mpr rfl)
          have dz6 := dzs.ex gA.ff
          have hy6 := (hy4.ex g13.ff).ex gA.ff
          have ex6 := (ex4.trans g13.ff).trans gA.ff
          generalize upd F13 a (.lst (g.map V.str ++ [.str m])) = F14 at gA S6 dA dz6 hy6 ex6
          generalize upd H13 a (.lst (g.map V.str ++ [.str m])) = H14 at gA S6 ⊢
          refine ⟨_, rfl, _, rfl, _, _, rfl, rfl, _, rfl, slQ_dp hy6 (.inl rfl) S6.g.fh fun r2 e2 F15 H15 g15 tw2 hr2 => ?_⟩
          obtain rfl : e2 = .list ((b.drop (k + 1)).map encLG) := by
            rcases tw2 with ⟨_, z⟩ | ⟨z, _⟩
            · rw [z, cut_bl']
            · cases z
          obtain ⟨p2', ws, rfl, hws, dws⟩ := dp_list hr2
          have S7 := S6.gr g15
          refine ⟨p2', ws, rfl, .inr (sees_l S7.g.fh hws), ?_, fun c hc => ⟨L, acc, .ref c, rfl, rfl, ?_⟩⟩
          · rw [List.append_nil, List.length_append, List.length_cons, dzs.length, dws.length, List.length_map, List.length_map, List.length_take, List.length_drop]
            omega
          have gC := (Gr.refl (B := []) S7.g.fh).new (o := .lst (zs ++ .ref a :: (ws ++ []))) hc
          have S8 := S7.gr gC
          refine ⟨S8.h, lacc (k := 0) S8 (by simp; omega), ?_⟩
          have S9 := S8.app (y := .ref c) (b := b.take k ++ [g ++ [m]] ++ b.drop (k + 1)) (.lst (.inl (.inl upd_same)) (by
            have z := ((dz6.ex g15.ff).ex gC.ff).append (.cons ((dA.ex g15.ff).ex gC.ff) ((dws.ex gC.ff).append .nil))
            rw [List.append_nil (List.map encLG _)] at z
            rw [List.map_append, List.map_append, List.append_assoc]
            exact z))
          refine ⟨_, _, _, acc ++ [.ref c], rfl, ?_, (ex6.trans g15.ff).trans gC.ff⟩
          rw [List.range_succ, List.map_append, List.map_singleton, bg]
          simpa using S9
        · rintro σ' H10 ⟨o5, o6, F10, acc, rfl, S, ex3⟩
          refine ⟨_, _, _, F10, acc, rfl, ?_, exA.trans ex3⟩
          rw [tkB, List.flatMap_append]
          simpa [oneMore] using S
      · rintro σ' H5 ⟨o4, o5, o6, F5, acc, rfl, S, ex⟩
        rw [List.take_length] at S
        have gd := S.g.done S.n0 S.f S.h
        refine ⟨_, rfl, _, _, _, _, _, _, _, rfl, gd, (ex2.trans ex).trans (Ex.new S.f), .lst (.inl (.inl upd_same)) ?_⟩
        rw [tk, parts_snoc, hB]
        exact S.d.ex (Ex.new S.f)
    · rintro σ' H2 ⟨o2, o3, o4, o5, o6, Fn, F2, rfl, g2, ex2, d2⟩
      rw [List.take_length] at d2
      exact ⟨_, rfl, q _ _ _ g2 d2⟩
end
end TW
set_option Elab.async false
set_option linter.all false
set_option maxRecDepth 100000
set_option maxHeartbeats 8000000
/-! blends of a wall, in order -/
namespace TW
open PySem PySem.Spec PyProof.Rows L2 RZ StX
open Evl (Ex)
theorem alike_B : ∀ a b : Bl, PySem.W.alike (encB a) (encB b) = true := by
  intro a b
  rw [encB, encB, PySem.W.alike]
  induction a generalizing b with
  | nil => rw [List.map_nil, PySem.W.alikeAll]
  | cons x a ih =>
    cases b with
    | nil => rw [List.map_cons, List.map_nil, PySem.W.alikeAll]
    | cons y b => rw [List.map_cons, List.map_cons, PySem.W.alikeAll, ih b, alike_R]; rfl
theorem depthAll_R : ∀ b : Bl, PyData.depthAll (b.map encR) ≤ 1
  | [] => by simp [PyData.depthAll]
  | g :: b => by
    have z := depthAll_R b
    have y := depth_R g
    simp only [List.map_cons, PyData.depthAll]
    omega
theorem depth_B (b : Bl) : (encB b).depth ≤ 2 := by
  have z := depthAll_R b
  simp only [encB, PyData.depth]
  omega
theorem allAlike_R (b : Bl) : PySem.W.AllAlike (b.map encR) := fun d hd e he => by
  obtain ⟨x, _, rfl⟩ := List.mem_map.mp hd
  obtain ⟨y, _, rfl⟩ := List.mem_map.mp he
  exact alike_R x y
theorem allAlike_B (l : List Bl) : PySem.W.AllAlike (l.map encB) := fun d hd e he => by
  obtain ⟨x, _, rfl⟩ := List.mem_map.mp hd
  obtain ⟨y, _, rfl⟩ := List.mem_map.mp he
  exact alike_B x y
theorem sortable_R {b : Bl} (ne : ∀ g ∈ b, g ≠ []) : PySem.W.Sortable (b.map encR) := .inl fun d hd => by
  obtain ⟨g, hg, rfl⟩ := List.mem_map.mp hd
  cases g with
  | nil => exact absurd rfl (ne _ hg)
  | cons a g => exact ⟨.str a, g.map .str, rfl⟩
theorem tup_B (l : List Bl) : ∀ d ∈ l.map encB, ∃ xs, d = .tuple xs := fun d hd => by
  obtain ⟨x, _, rfl⟩ := List.mem_map.mp hd
  exact ⟨_, rfl⟩
theorem WaD.Ok.slt {s : WaD} (ok : s.Ok) : s.all.Pairwise slt := slt_sorted ok.as ok.an
def spAllB (K : PySem.W.Frag) (C : Addr) : Sp := fun vs H Q _ => ∃ (F : Hp) (x : Addr) (s : WaD), vs = [.ref x] ∧ Sees F H ∧ WaAt K C F x s ∧ s.all.length ≤ 5 ∧ ∀ r F' H', Gr [] F H F' H' → Dp K F' r (.list ((allB s.all).map encB)) → Q r H'
def spBlends (K : PySem.W.Frag) (C : Addr) : Sp := fun vs H Q _ => ∃ (F : Hp) (x : Addr) (s : WaD), vs = [.ref x] ∧ Sees F H ∧ WaAt K C F x s ∧ s.all.length ≤ 5 ∧ ∀ r F' H', Gr [] F H F' H' → Dp K F' r (.tuple ((allB s.all).map encB)) → Q r H'
def spAlone (K : PySem.W.Frag) (C : Addr) : Sp := fun vs H Q _ => ∃ (F : Hp) (x : Addr) (s : WaD), vs = [.ref x] ∧ Sees F H ∧ WaAt K C F x s ∧ Q .non H
section
variable {P : Program} {w : World} {K : PySem.W.Frag} {mg : Str → Option Value} {base : Heap}
theorem ok_need_alone {f C : Addr} {fd : FuncData} (F : Fun K "need_alone" "need_alone" s_need_alone f fd) (T : Txt mg) (g_Wall : mg "Wall" = some (.ref C)) (IW : InsC K C) : FnOk P w K mg base CX0 1 f fd ["value"] (spAlone K C) := by
  refine F.ok sc_need_alone (fun vs H Q E h => ?_) (fun cdv A outer s H vs Q E hr h => ?_)
  · obtain ⟨F0, x, s, rfl, _⟩ := h
    rfl
  · obtain ⟨F0, x, s, rfl, fs, ⟨⟨dx, D, vs, va, kvs, hx, hD, tl, hva⟩, ok⟩, q⟩ := h
    refine ⟨_, (pss_one (ps_if (pt_not (pt_val (pe_callB (cr_isi K) (by rfl) T.isinstance bt_isinstance (pa_cons (pv 0) (pa_cons (zown g_Wall) pa_nil)))))
        (pss_one ps_never)
        pss_nil)), ?_⟩
    exact ⟨_, rfl, isi_own IW (sees_i fs hx) ⟨_, rfl, iteF q⟩⟩
theorem ok_all_blends {f C : Addr} {fd : FuncData} (F : Fun K "all_blends" "all_blends" s_all_blends f fd) (T : Txt mg) (TW_ : WaC K C) (C_parted : Cal P w K mg base "parted" 1 ["marks"] [] (spParted K)) : FnOk P w K mg base CX0 2 f fd ["wall"] (spAllB K C) := by
  refine F.ok sc_all_blends (fun vs H Q E h => ?_) (fun cdv A outer s H vs Q E hr h => ?_)
  · obtain ⟨F0, x, s, rfl, _⟩ := h
    rfl
  · obtain ⟨F0, x, s, rfl, fs, ⟨⟨dx, D, vs, va, kvs, hx, hD, tl, hva⟩, ok⟩, l5, q⟩ := h
    have hu16 := hu16_of hr
    refine ⟨_, (pss_cons (ps_if (pt_cmpR op_gt (pe_callB (cr_len K) (by rfl) T.len bt_len (pa_cons (zfld K (pv 0)) pa_nil)) (zc T.c_MOST_BLENDED) (nomark _))
        (pss_one ps_never)
        pss_nil)
      (pss_one (ps_ret (pe_callB (cr_sortedE K hu16) (by rfl) T.sorted bt_sorted (pa_cons (pe_lc (own := [("groups", 2)]) rfl sc_all_blends.nd (zseq K (pe_cal C_parted (hr.mono (by decide)) (pa_cons (zfld K (pv 0)) pa_nil))) (blkOk_by (N := sc_all_blendsN) (sc := defScope s_all_blends) (by decide +kernel)) (fun _ _ _ _ _ => (zg (i := 2) sc_all_blends.nd)) (fun _ _ _ _ _ => pts_nil) (fun _ _ _ _ _ => (pe_callTy (cr_tuple K) (by rfl) T.tuple bt_tuple (pa_cons (pe_callB (cr_sortedD K hu16) (by rfl) T.sorted bt_sorted (pa_cons (pe_lc (own := [("group", 1)]) rfl sc_all_blends.nd (zseq K (pv 2)) (blkOk_by (by first | rfl | kernel_rfl)) (fun _ _ _ _ _ => (zg (i := 1) sc_all_blends.nd)) (fun _ _ _ _ _ => pts_nil) (fun _ _ _ _ _ => (pe_callTy (cr_tuple K) (by rfl) T.tuple bt_tuple (pa_cons (pv 1) pa_nil)))) pa_nil)) pa_nil)))) pa_nil))))), ?_⟩
    refine ⟨_, rfl, x, C, dx, _, _, rfl, sees_i fs hx, TW_.cl, TW_.nA, rfl, len_dp hva (.inr rfl) fs ⟨_, _, rfl, rfl, _, rfl, ?_⟩⟩
    refine iteNo (by rw [List.length_map]; simp; omega) ?_
    refine ⟨_, rfl, x, C, dx, _, _, rfl, sees_i fs hx, TW_.cl, TW_.nA, rfl, F0, va, _, s.all, rfl, fs, hva, .inr rfl, l5, fun r F1 H1 g1 hr1 => ?_⟩
    obtain ⟨few1, few2⟩ := parts_few l5
    refine seq_walk hr1 (.inl rfl) g1.fh fun J xs G w1 hG hxs hlen D1 hD1 => ?_
    refine lc_seqM (bs := parts s.all) (enc := encLB) (f := fun b => encB (sortB b)) w1 hxs g1.fh hG (by omega) (fun b y F2 H2 hb g2 hy => turn1 rfl fun Yes h => ?_) hD1 fun acc F2 H2 g2 fD hDc hacc => ?_
    · have okb := parts_ok ok.slt hb
      have lb := few2 b hb
      refine ⟨_, rfl, seq_walk (show Dp K F2 y (.list (b.map encLG)) from hy) (.inl rfl) g2.fh fun J2 xs2 G2 w2 hG2 hxs2 hlen2 D2 hD2 => ?_⟩
      refine lc_seqM (bs := b) (enc := encLG) (f := encR) w2 hxs2 g2.fh hG2 (by omega) (fun g z F3 H3 hg g3 hz => turn1 rfl fun Yes2 h2 => ?_) hD2 fun acc2 F3 H3 g3 fD2 hDc2 hacc2 => ?_
      · exact ⟨_, rfl, tuple_dp (show Dp K F3 z (.list (g.map .str)) from hz) (.inl rfl) g3.fh fun r F4 H4 g4 hr4 => h2 _ _ _ g4 hr4⟩
      · refine ⟨_, encR, b, D2, acc2, F3, rfl, g3.fh, .inl (.inl hDc2), hacc2, allAlike_R b, sortable_R okb.ne, fun g _ => by rw [depth_R]; decide, fun ys p hys hp => ?_⟩
        have g4 := g3.newM (o := .lst ys) hp
        refine .mk ⟨p, ys, rfl, .inl ⟨.inl (.inl upd_same), fun l hl => ?_⟩⟩
        have g5 := g4.new (o := .tup ys) hl
        exact h _ _ _ g5 (.tup (.inl (.inl upd_same)) (hys.ex (Ex.new (g4.fh.dm hl))))
    · have e : (parts s.all).map (fun b => encB (sortB b)) = ((parts s.all).map sortB).map encB := by rw [List.map_map]; rfl
      rw [e] at hacc
      refine .mk ⟨_, encB, (parts s.all).map sortB, D1, acc, F2, rfl, g2.fh, .inl (.inl (.inl hDc)), hacc, allAlike_B _, tup_B _, fun b _ => by have := depth_B b; omega, fun ys p hys hp => ?_⟩
      have g4 := (g1.trans g2).newM (o := .lst ys) hp
      exact q _ _ _ (g4.done (g1.trans g2 |>.dm _ hp) ((g1.trans g2).fh.dm hp) upd_same) (.lst (.inl (.inl upd_same)) (hys.ex (Ex.new ((g1.trans g2).fh.dm hp))))
theorem ok_blends {f C : Addr} {fd : FuncData} (F : Fun K "blends" "blends" s_blends f fd) (T : Txt mg) (C_need_alone : Cal P w K mg base "need_alone" 1 ["value"] [] (spAlone K C)) (C_all_blends : Cal P w K mg base "all_blends" 2 ["wall"] [] (spAllB K C)) : FnOk P w K mg base CX0 3 f fd ["wall"] (spBlends K C) := by
  refine F.ok sc_blends (fun vs H Q E h => ?_) (fun cdv A outer s H vs Q E hr h => ?_)
  · obtain ⟨F0, x, s, rfl, _⟩ := h
    rfl
  · obtain ⟨F0, x, s, rfl, fs, wa, l5, q⟩ := h
    refine ⟨_, (pss_cons (ps_expr (pe_cal C_need_alone (hr.mono (by decide)) (pa_cons (pv 0) pa_nil)))
      (pss_one (ps_ret (pe_callTy (cr_tuple K) (by rfl) T.tuple bt_tuple (pa_cons (pe_cal C_all_blends (hr.mono (by decide)) (pa_cons (pv 0) pa_nil)) pa_nil))))), ?_⟩
    refine ⟨_, rfl, F0, x, s, rfl, fs, wa, ?_⟩
    refine ⟨_, rfl, F0, x, s, rfl, fs, wa, l5, fun r F1 H1 g1 hr1 => ?_⟩
    exact tuple_dp hr1 (.inl rfl) g1.fh fun r2 F2 H2 g2 hr2 => q _ _ _ (g1.trans g2) hr2
end
end TW
set_option Elab.async false
set_option linter.all false
set_option maxRecDepth 100000
set_option maxHeartbeats 8000000
/-! thicker blends -/
namespace TW
open PySem PySem.Spec PyProof.Rows L2 RZ StX
open Evl (Ex)
theorem inV_S (k : Str) (l : List Str) : inV (.str k) (l.map V.str) = l.contains k := by
  rw [Bool.eq_iff_iff, List.contains_iff_mem]
  constructor
  · intro z
    obtain ⟨x, hx, e⟩ := List.any_eq_true.mp z
    obtain ⟨y, hy, rfl⟩ := List.mem_map.mp hx
    have e' : y = k ∨ k = y := by
      simp [eqV] at e
      first | exact .inl e | exact .inr e
    rcases e' with rfl | rfl <;> exact hy
  · exact fun z => inV_str z
theorem in_S {K : PySem.W.Frag} {F H : Hp} {v : V} {d : PyData} {l : List Str} {k : Str} {neg : Bool} {Q : VK} (h : Dp K F v d) (hq : isSeq d (l.map .str)) (s : Sees F H) (q : Q (.bl (if neg = true then !l.contains k else l.contains k)) H) : rInD K neg (.str k) v H Q := by
  obtain ⟨a, xs, rfl, h1, h2⟩ := dp_seq h hq
  rw [dps_str] at h2
  subst h2
  refine .mk ⟨a, _, rfl, h1.imp (sees_l s) (sees_t s), rfl, flat_strs l, ?_⟩
  rw [inV_S]
  exact q
/-- [f(mark) for group in groups for mark in group], groups told -/
theorem flat2 {K : PySem.W.Frag} {wi : TI} {a c : Nat} {te : TE} {own : List Nat} {σ : L2.St} {F H : Hp} {Q : VK} {v : V} {d : PyData} {b : Bl} {e : List PyData → PyData} (f : Str → PyData) (hv : Dp K F v d) (hq : isSeq d (b.map fun g => e (g.map .str))) (he : ∀ l, isSeq (e l) l) (s : Sees F H)
    (hwi : ∀ R, rSeq K v H R → wi σ H R) (w1 : ∀ y, wipe ((wipe σ own).set a (some y)) own = wipe σ own) (w2 : ∀ y x, wipe ((wipe ((wipe σ own).set a (some y)) [c]).set c (some x)) [c] = wipe ((wipe σ own).set a (some y)) [c]) (va : ∀ y, ((wipe σ own).set a (some y))[a]? = some (some y)) (few : b.flatten.length ≤ 1000)
    (step : ∀ g m y F' H' (Yes : V → Hp → Prop), g ∈ b → m ∈ g → Gr [] F H F' H' → (∀ u, Dp K F' u (f m) → Yes u H') → te ((wipe ((wipe σ own).set a (some y)) [c]).set c (some (.str m))) H' Yes)
    (q : ∀ p acc F' H', Gr [] F H F' H' → F' p = some (.lst acc) → H' p = some (.lst acc) → DpAll K F' acc (b.flatten.map f) → Q (.ref p) H') : tLc2 wi (gName a) tYes (iSeq K (tVar a)) (gName c) tYes te own [c] σ H Q := by
  have lz : 100000 < sizeLine := by rw [sizeLine_eq]; decide
  refine hwi _ (seq_walk hv hq s fun J xs G k1 hG hxs hlen D hD => ?_)
  rw [hlen, List.length_map] at k1
  refine loop_it k1 (fun i H' => ∃ F' acc, Gr [] F H F' H' ∧ F' D = none ∧ H' D = some (.lst acc) ∧ DpAll K F' acc ((b.take i).flatten.map f)) ⟨F, [], (Gr.refl s).newM hD, s.dm hD, upd_same, .nil⟩ (fun i H' _ ⟨F', acc, g, _⟩ => hG H' (sees_gr g)) (fun i y H' H'' hi ⟨F', acc, g, fD, hDc, hacc⟩ yy => ?_) fun H' ⟨F', acc, g, fD, hDc, hacc⟩ => ?_
  · obtain ⟨rfl, hyi⟩ := yy
    obtain ⟨dd, e1, e2⟩ := hxs.get hyi
    rw [List.getElem?_map] at e1
    obtain ⟨k, hk, rfl⟩ := Option.map_eq_some_iff.mp e1
    have tk : b.take (i + 1) = b.take i ++ [k] := by rw [List.take_add_one, hk]; rfl
    refine ⟨w1 y, yesI ⟨_, va y, seq_walk (e2.ex g.ff) (he _) g.fh fun J2 xs2 G2 k2 hG2 hxs2 hlen2 => ?_⟩⟩
    rw [hlen2, List.length_map] at k2
    refine loop_it k2 (fun j H' => ∃ acc', Gr [D] F' H'' F' H' ∧ H' D = some (.lst acc') ∧ DpAll K F' acc' (((b.take i).flatten ++ k.take j).map f)) ⟨acc, Gr.refl g.fh, hDc, by simpa using hacc⟩ (fun j H' _ ⟨acc', g', _⟩ => hG2 H' fun a o e => g'.fh a o (g'.ff a o e)) (fun j x H3 H4 hj ⟨acc', g', hDc', hacc'⟩ yy => ?_) fun H3 ⟨acc', g', hDc', hacc'⟩ => ?_
    · obtain ⟨rfl, hxj⟩ := yy
      obtain ⟨dd, e3, e4⟩ := hxs2.get hxj
      rw [List.getElem?_map] at e3
      obtain ⟨m, hm, rfl⟩ := Option.map_eq_some_iff.mp e3
      rw [dp_str] at e4
      subst e4
      have tm : k.take (j + 1) = k.take j ++ [m] := by rw [List.take_add_one, hm]; rfl
      have gg : Gr [] F H F' H4 := g.trans g' fun b hb => .inr (by rw [List.mem_singleton.mp hb]; exact hD)
      refine ⟨w2 y _, yesI (step k m y F' H4 _ (List.mem_of_getElem? hk) (List.mem_of_getElem? hm) gg fun u hu => ⟨acc', hDc', ?_, acc' ++ [u], g'.mut fD (.inl (List.mem_singleton.mpr rfl)), upd_same, ?_⟩)⟩
      · have sub : ((b.take i).flatten ++ k.take j).Sublist b.flatten := by
          have z : ((b.take (i + 1)).flatten).Sublist b.flatten := by
            conv => rhs; rw [← List.take_append_drop (i + 1) b, List.flatten_append]
            exact List.sublist_append_left _ _
          rw [tk, List.flatten_append, List.flatten_cons, List.flatten_nil, List.append_nil] at z
          exact (List.Sublist.append_left (List.take_sublist _ _) _).trans z
        have z := hacc'.length
        rw [List.length_map] at z
        have := sub.length_le
        omega
      · rw [tm, ← List.append_assoc, List.map_append]
        exact hacc'.append (.cons hu .nil)
    · refine ⟨F', acc', g.trans g' (fun b hb => .inr (by rw [List.mem_singleton.mp hb]; exact hD)), fD, hDc', ?_⟩
      rw [tk, List.flatten_append, List.flatten_cons, List.flatten_nil, List.append_nil]
      rw [List.take_length] at hacc'
      exact hacc'
  · rw [List.take_length] at hacc
    exact q D acc _ H' (g.done hD fD hDc) upd_same hDc (hacc.ex (Ex.new fD))
def spInOne (K : PySem.W.Frag) : Sp := fun vs H Q _ => ∃ (F : Hp) (vg vb : V) (g : List Str) (b : Bl), vs = [vg, vb] ∧ Sees F H ∧ Dp K F vg (encR g) ∧ Dp K F vb (encB b) ∧ g.length ≤ 100 ∧ b.length ≤ 100 ∧ b.flatten.length ≤ 100 ∧ ∀ F' H', Gr [] F H F' H' → Q (.bl (insideOne g b)) H'
def spThick (K : PySem.W.Frag) : Sp := fun vs H Q _ => ∃ (F : Hp) (vp vq : V) (p q : Bl), vs = [vp, vq] ∧ Sees F H ∧ Dp K F vp (encB p) ∧ Dp K F vq (encB q) ∧ p.length ≤ 100 ∧ q.length ≤ 100 ∧ p.flatten.length ≤ 100 ∧ q.flatten.length ≤ 100 ∧ ∀ F' H', Gr [] F H F' H' → Q (.bl (thick p q)) H'
section
variable {P : Program} {w : World} {K : PySem.W.Frag} {mg : Str → Option Value} {base : Heap}
theorem ok_inside {f : Addr} {fd : FuncData} (F : Fun K "is_inside_one" "is_inside_one" s_is_inside_one f fd) (T : Txt mg) : FnOk P w K mg base CX0 1 f fd ["group", "groups"] (spInOne K) := by
  refine F.ok sc_is_inside_one (fun vs H Q E h => ?_) (fun cdv A outer s H vs Q E hr h => ?_)
  · obtain ⟨F0, vg, vb, g, b, rfl, _⟩ := h
    rfl
  · obtain ⟨F0, vg, vb, g, b, rfl, fs, hg, hb, lg, lb, lf, q⟩ := h
    refine ⟨_, (pss_cons (zs (i := 2) sc_is_inside_one.nd (pe_lc2 (own := [("other", 3), ("mark", 4)]) (vs1 := [4]) rfl sc_is_inside_one.nd (zseq K (pv 1)) (blkOk_by (N := sc_is_inside_oneN) (sc := defScope s_is_inside_one) (by decide +kernel)) (by decide) (fun _ _ _ _ _ => (zg (i := 3) sc_is_inside_one.nd)) (fun _ _ _ _ _ => pts_nil) (fun _ _ _ _ _ => (zseq K (pv 3))) (fun _ _ _ _ _ => (zg (i := 4) sc_is_inside_one.nd)) (fun _ _ _ _ _ => pts_nil) (fun _ _ _ _ _ => (pv 4))))
      (pss_cons (ps_if (pt_not (pt_val (pe_callB (cr_anyD K) (by rfl) T.any bt_any (pa_cons (pe_lc (own := [("mark", 4)]) rfl sc_is_inside_one.nd (zseq K (pv 0)) (blkOk_by (N := sc_is_inside_oneN) (sc := defScope s_is_inside_one) (by decide +kernel)) (fun _ _ _ _ _ => (zg (i := 4) sc_is_inside_one.nd)) (fun _ _ _ _ _ => pts_nil) (fun _ _ _ _ _ => (pe_cmpR (op_inK K) (pv 4) (pv 2) rfl))) pa_nil))))
        (pss_one (ps_ret pe_bl))
        pss_nil)
      (pss_one (ps_ret (pe_callB (cr_anyD K) (by rfl) T.any bt_any (pa_cons (pe_lc (own := [("other", 3)]) rfl sc_is_inside_one.nd (zseq K (pv 1)) (blkOk_by (N := sc_is_inside_oneN) (sc := defScope s_is_inside_one) (by decide +kernel)) (fun _ _ _ _ _ => (zg (i := 3) sc_is_inside_one.nd)) (fun _ _ _ _ _ => pts_nil) (fun _ _ _ _ _ => (pe_callB (cr_allD K) (by rfl) T.all bt_all (pa_cons (pe_lc (own := [("mark", 4)]) rfl sc_is_inside_one.nd (zseq K (pv 0)) (blkOk_by (by first | rfl | kernel_rfl)) (fun _ _ _ _ _ => (zg (i := 4) sc_is_inside_one.nd)) (fun _ _ _ _ _ => pts_nil) (fun _ _ _ _ _ => (pe_cmpR (op_inK K) (pv 4) (pv 3) rfl))) pa_nil)))) pa_nil)))))), ?_⟩
    unfold tSeq tAsg
    refine flat2 (K := K) (wi := iSeq K (tVar 1)) (a := 3) (c := 4) (te := tVar 4) (own := [3, 4]) (σ := [some vg, some vb, none, none, none]) (e := .tuple) .str hb (.inr rfl) (fun l => .inr rfl) fs (fun R h => ⟨_, rfl, h⟩) (fun _ => rfl) (fun _ _ => rfl) (fun _ => rfl) (by omega) (fun g' m y F' H' Yes _ _ g2 h => ⟨_, rfl, h _ (.str m)⟩) fun p acc F1 H1 g1 fp hp hacc => ?_
    have hp' : Dp K F1 (.ref p) (.list (b.flatten.map .str)) := .lst (.inl (.inl fp)) hacc
    refine ⟨_, rfl, seq_walk (show Dp K F1 vg (.tuple (g.map .str)) from hg.ex g1.ff) (.inr rfl) g1.fh fun J xs G w1 hG hxs hlen D hD => ?_⟩
    refine lc_seqB (bs := g) (enc := .str) (f := fun m => b.flatten.contains m) w1 hxs g1.fh hG (by omega) (fun m y F2 H2 hm g2 hy => turn1 rfl fun Yes h => ?_) hD fun F2 H2 g2 fD hDc => ?_
    · rw [dp_str] at hy
      subst hy
      exact ⟨_, rfl, _, rfl, in_S (hp'.ex g2.ff) (.inl rfl) g2.fh (by rw [if_neg (by decide)]; exact h _ _ _ (Gr.refl g2.fh) rfl)⟩
    refine any_new hDc ⟨_, rfl, ?_⟩
    have g12 := g1.trans g2
    by_cases c : (!(g.map fun m => b.flatten.contains m).any id) = true
    · refine iteYes c ?_
      have e : insideOne g b = true := by unfold insideOne; rw [if_pos c]
      have z := q _ _ g12
      rw [e] at z
      exact z
    refine iteNo c ?_
    have e : insideOne g b = (b.map fun h => (g.map fun m => h.contains m).all id).any id := by unfold insideOne; rw [if_neg c]
    refine ⟨_, rfl, seq_walk (show Dp K F2 vb (.tuple (b.map encR)) from hb.ex g12.ff) (.inr rfl) g12.fh fun J2 xs2 G2 w2 hG2 hxs2 hlen2 D2 hD2 => ?_⟩
    refine lc_seqB (bs := b) (enc := encR) (f := fun h => (g.map fun m => h.contains m).all id) w2 hxs2 g12.fh hG2 (by omega) (fun k y F3 H3 hk g3 hy => turn1 rfl fun Yes h => ?_) hD2 fun F3 H3 g3 fD3 hDc3 => ?_
    · refine ⟨_, rfl, seq_walk (show Dp K F3 vg (.tuple (g.map .str)) from (hg.ex g12.ff).ex g3.ff) (.inr rfl) g3.fh fun J4 xs4 G4 w4 hG4 hxs4 hlen4 D4 hD4 => ?_⟩
      refine lc_seqB (bs := g) (enc := .str) (f := fun m => k.contains m) w4 hxs4 g3.fh hG4 (by omega) (fun m z F5 H5 hm g5 hz => turn1 rfl fun Yes2 h2 => ?_) hD4 fun F5 H5 g5 fD5 hDc5 => ?_
      · rw [dp_str] at hz
        subst hz
        exact ⟨_, rfl, _, rfl, in_S (show Dp K F5 y (.tuple (k.map .str)) from hy.ex g5.ff) (.inr rfl) g5.fh (by rw [if_neg (by decide)]; exact h2 _ _ _ (Gr.refl g5.fh) rfl)⟩
      · exact all_new hDc5 (h _ _ _ g5 rfl)
    · refine any_new hDc3 ?_
      rw [← e]
      exact q _ _ (g12.trans g3)
theorem ok_thick {f : Addr} {fd : FuncData} (F : Fun K "is_as_thick" "is_as_thick" s_is_as_thick f fd) (T : Txt mg) (C_is_inside_one : Cal P w K mg base "is_inside_one" 1 ["group", "groups"] [] (spInOne K)) : FnOk P w K mg base CX0 2 f fd ["one", "other"] (spThick K) := by
  refine F.ok sc_is_as_thick (fun vs H Q E h => ?_) (fun cdv A outer s H vs Q E hr h => ?_)
  · obtain ⟨F0, vp, vq, p, q', rfl, _⟩ := h
    rfl
  · obtain ⟨F0, vp, vq, p, q', rfl, fs, hp, hq, lp, lq, fp, fq, q⟩ := h
    refine ⟨_, (pss_cons (zs (i := 2) sc_is_as_thick.nd (pe_lc2 (own := [("group", 3), ("mark", 4)]) (vs1 := [4]) rfl sc_is_as_thick.nd (zseq K (pv 1)) (blkOk_by (N := sc_is_as_thickN) (sc := defScope s_is_as_thick) (by decide +kernel)) (by decide) (fun _ _ _ _ _ => (zg (i := 3) sc_is_as_thick.nd)) (fun _ _ _ _ _ => pts_nil) (fun _ _ _ _ _ => (zseq K (pv 3))) (fun _ _ _ _ _ => (zg (i := 4) sc_is_as_thick.nd)) (fun _ _ _ _ _ => pts_nil) (fun _ _ _ _ _ => (pv 4))))
      (pss_cons (ps_if (pt_val (pe_callB (cr_anyD K) (by rfl) T.any bt_any (pa_cons (pe_lc2 (own := [("group", 3), ("mark", 4)]) (vs1 := [4]) rfl sc_is_as_thick.nd (zseq K (pv 0)) (blkOk_by (N := sc_is_as_thickN) (sc := defScope s_is_as_thick) (by decide +kernel)) (by decide) (fun _ _ _ _ _ => (zg (i := 3) sc_is_as_thick.nd)) (fun _ _ _ _ _ => pts_nil) (fun _ _ _ _ _ => (zseq K (pv 3))) (fun _ _ _ _ _ => (zg (i := 4) sc_is_as_thick.nd)) (fun _ _ _ _ _ => pts_nil) (fun _ _ _ _ _ => (pe_cmpR (op_niK K) (pv 4) (pv 2) rfl))) pa_nil)))
        (pss_one (ps_ret pe_bl))
        pss_nil)
      (pss_one (ps_ret (pe_callB (cr_allD K) (by rfl) T.all bt_all (pa_cons (pe_lc (own := [("group", 3)]) rfl sc_is_as_thick.nd (zseq K (pv 1)) (blkOk_by (N := sc_is_as_thickN) (sc := defScope s_is_as_thick) (by decide +kernel)) (fun _ _ _ _ _ => (zg (i := 3) sc_is_as_thick.nd)) (fun _ _ _ _ _ => pts_nil) (fun _ _ _ _ _ => (pe_cal C_is_inside_one (hr.mono (by decide)) (pa_cons (pv 3) (pa_cons (pv 0) pa_nil))))) pa_nil)))))), ?_⟩
    unfold tSeq tAsg
    refine flat2 (K := K) (wi := iSeq K (tVar 1)) (a := 3) (c := 4) (te := tVar 4) (own := [3, 4]) (σ := [some vp, some vq, none, none, none]) (e := .tuple) .str hq (.inr rfl) (fun l => .inr rfl) fs (fun R h => ⟨_, rfl, h⟩) (fun _ => rfl) (fun _ _ => rfl) (fun _ => rfl) (by omega) (fun g' m y F' H' Yes _ _ g2 h => ⟨_, rfl, h _ (.str m)⟩) fun l acc F1 H1 g1 fl hl hacc => ?_
    have hl' : Dp K F1 (.ref l) (.list (q'.flatten.map .str)) := .lst (.inl (.inl fl)) hacc
    unfold tIfS tB tCB tCons gName
    dsimp only
    refine flat2 (K := K) (wi := iSeq K (tVar 0)) (a := 3) (c := 4) (te := tOp (rInD K true) (tVar 4) (tVar 2)) (own := [3, 4]) (σ := [some vp, some vq, some (.ref l), none, none]) (e := .tuple) (fun m => .bool (!q'.flatten.contains m)) (hp.ex g1.ff) (.inr rfl) (fun l => .inr rfl) g1.fh (fun R h => ⟨_, rfl, h⟩) (fun _ => rfl) (fun _ _ => rfl) (fun _ => rfl) (by omega)
      (fun g' m y F' H' Yes _ _ g2 h => ⟨_, rfl, _, rfl, in_S (hl'.ex g2.ff) (.inl rfl) g2.fh (by rw [if_pos rfl]; exact h _ (.bl _))⟩) fun l2 acc2 F2 H2 g2 fl2 hl2 hacc2 => ?_
    rw [show p.flatten.map (fun m => PyData.bool (!q'.flatten.contains m)) = (p.flatten.map fun m => !q'.flatten.contains m).map PyData.bool by rw [List.map_map]; rfl, dps_bl] at hacc2
    subst hacc2
    have g12 := g1.trans g2
    refine any_new hl2 ⟨_, rfl, ?_⟩
    by_cases c : (p.flatten.map fun m => !q'.flatten.contains m).any id = true
    · refine iteYes c ?_
      have e : thick p q' = false := by unfold thick; rw [if_pos c]
      have z := q _ _ g12
      rw [e] at z
      exact z
    refine iteNo c ?_
    have e : thick p q' = (q'.map fun g => insideOne g p).all id := by unfold thick; rw [if_neg c]
    refine ⟨_, rfl, seq_walk (show Dp K F2 vq (.tuple (q'.map encR)) from hq.ex g12.ff) (.inr rfl) g12.fh fun J xs G w1 hG hxs hlen D hD => ?_⟩
    refine lc_seqB (bs := q') (enc := encR) (f := fun g => insideOne g p) w1 hxs g12.fh hG (by omega) (fun k y F3 H3 hk g3 hy => turn1 rfl fun Yes h => ?_) hD fun F3 H3 g3 fD3 hDc3 => ?_
    · have lk : k.length ≤ q'.flatten.length := (List.sublist_flatten_of_mem hk).length_le
      exact ⟨_, rfl, _, rfl, F3, y, vp, k, p, rfl, g3.fh, hy, (hp.ex g12.ff).ex g3.ff, by omega, lp, fp, fun F4 H4 g4 => h _ _ _ g4 rfl⟩
    · refine all_new hDc3 ?_
      rw [← e]
      exact q _ _ (g12.trans g3)
end
end TW
set_option Elab.async false
set_option linter.all false
set_option maxRecDepth 100000
set_option maxHeartbeats 8000000
/-! groups that are asked for -/
namespace TW
open PySem PySem.Spec PyProof.Rows L2 RZ StX
open Evl (Ex)
def spGroup (K : PySem.W.Frag) : Sp := fun vs H Q _ => ∃ (F : Hp) (v vm : V) (d : PyData) (g ms : List Str), vs = [v, vm] ∧ Sees F H ∧ Dp K F v d ∧ isSeq d (g.map .str) ∧ Dp K F vm (.tuple (ms.map .str)) ∧ g ≠ [] ∧ (∀ m ∈ g, m ∈ ms) ∧ g.Pairwise slt ∧ g.length ≤ 100 ∧ ∀ F' H', Gr [] F H F' H' → Q (.bl true) H'
/-- groups as lists or as tuples, in any order -/
def spGroups (K : PySem.W.Frag) (C : Addr) : Sp := fun vs H Q _ => ∃ (F : Hp) (x : Addr) (s : WaD) (v : V) (d : PyData) (b : Bl) (e : List PyData → PyData), vs = [.ref x, v] ∧ Sees F H ∧ WaAt K C F x s ∧ Dp K F v d ∧ isSeq d (b.map fun g => e (g.map .str)) ∧ (∀ l, isSeq (e l) l) ∧ BlOk s.all b ∧ s.all.length ≤ 100 ∧
  ∀ r F' H', Gr [] F H F' H' → Dp K F' r (encB (sortB b)) → Q r H'
theorem pw_zip : ∀ {l : List Str}, l.Pairwise slt → ∀ p ∈ l.zip (l.drop 1), slt p.1 p.2
  | [], _, p, hp => by simp at hp
  | [a], _, p, hp => by simp at hp
  | a :: b :: r, h, p, hp => by
    simp only [List.drop_one, List.tail_cons, List.zip_cons_cons, List.mem_cons] at hp
    obtain ⟨h1, h2⟩ := List.pairwise_cons.mp h
    rcases hp with rfl | hp
    · exact h1 b List.mem_cons_self
    · exact pw_zip (l := b :: r) h2 p (by simpa using hp)
section
variable {P : Program} {w : World} {K : PySem.W.Frag} {mg : Str → Option Value} {base : Heap}
theorem ok_is_group {f : Addr} {fd : FuncData} (F : Fun K "is_group" "is_group" s_is_group f fd) (T : Txt mg) (C_is_listed : Cal P w K mg base "is_listed" 1 ["value"] [] (spListed K)) : FnOk P w K mg base CX0 2 f fd ["value", "marks"] (spGroup K) := by
  refine F.ok sc_is_group (fun vs H Q E h => ?_) (fun cdv A outer s H vs Q E hr h => ?_)
  · obtain ⟨F0, v, vm, d, g, ms, rfl, _⟩ := h
    rfl
  · obtain ⟨F0, v, vm, d, g, ms, rfl, fs, hd, hq, hm, ne, sub, pw, lg, q⟩ := h
    refine ⟨_, (pss_cons (ps_if (PW.pt (pw_or (pt_not (pt_val (pe_cal C_is_listed (hr.mono (by decide)) (pa_cons (pv 0) pa_nil)))) (pw_or (pt_cmpR op_eq (pe_callB (cr_len K) (by rfl) T.len bt_len (pa_cons (pv 0) pa_nil)) pe_int (nomark _)) (pw_or1 (pt_not (pt_val (pe_callB (cr_allD K) (by rfl) T.all bt_all (pa_cons (pe_lc (own := [("one", 2)]) rfl sc_is_group.nd (zseq K (pv 0)) (blkOk_by (N := sc_is_groupN) (sc := defScope s_is_group) (by decide +kernel)) (fun _ _ _ _ _ => (zg (i := 2) sc_is_group.nd)) (fun _ _ _ _ _ => pts_nil) (fun _ _ _ _ _ => (pe_and (pe_callB (cr_isi K) (by rfl) T.isinstance bt_isinstance (pa_cons (pv 2) (pa_cons (zty T.str bt_str) pa_nil))) (pe_one (pe_cmpR (op_inK K) (pv 2) (pv 1) rfl))))) pa_nil))))))))
        (pss_one (ps_ret pe_bl))
        pss_nil)
      (pss_one (ps_ret (pe_callB (cr_allD K) (by rfl) T.all bt_all (pa_cons (pe_lc (own := [("one", 2), ("other", 3)]) rfl sc_is_group.nd (pi_zipD K T.zip (pa_cons (pv 0) (pa_cons (pe_slice (sl_LA K) (pv 0) (po_some pe_int) po_none) pa_nil))) (blkOk_by (N := sc_is_groupN) (sc := defScope s_is_group) (by decide +kernel)) (fun _ _ _ _ _ => (zpg (n := 2) K (pgs_cons (zg (i := 2) sc_is_group.nd) (pgs_cons (zg (i := 3) sc_is_group.nd) pgs_nil)))) (fun _ _ _ _ _ => pts_nil) (fun _ _ _ _ _ => (pe_cmpR op_lt_str (pv 2) (pv 3) (nomark _)))) pa_nil))))), ?_⟩
    have hl : isListed d = true := by rcases hq with rfl | rfl <;> rfl
    refine ⟨v, rfl, F0, v, d, rfl, fs, hd, fun F1 H1 g1 => ⟨_, rfl, ?_⟩⟩
    rw [hl]
    refine iteF ⟨v, rfl, len_dp (hd.ex g1.ff) hq g1.fh ⟨rfl, _, rfl, ?_⟩⟩
    refine iteNo (fun z => ne ?_) ?_
    · have z2 := V.int.inj (of_decide_eq_true z)
      rw [List.length_map] at z2
      exact List.length_eq_zero_iff.mp (by omega)
    refine ⟨v, rfl, seq_walk (hd.ex g1.ff) hq g1.fh fun J xs G w1 hG hxs hlen D hD => ?_⟩
    refine lc_seqB (bs := g) (enc := .str) (f := fun _ => true) w1 hxs g1.fh hG (by omega) (fun m y F2 H2 hm2 g2 hy => turn1 rfl fun Yes h => ?_) hD fun F2 H2 g2 fD hDc => ?_
    · rw [dp_str] at hy
      subst hy
      exact ⟨_, rfl, isi_dp (.str m) rfl ⟨_, rfl, iteT ⟨_, rfl, _, rfl, in_S ((hm.ex g1.ff).ex g2.ff) (.inr rfl) g2.fh (by rw [if_neg (by decide)]; exact h _ _ _ (Gr.refl g2.fh) (by rw [List.contains_iff_mem.mpr (sub m hm2)]))⟩⟩⟩
    refine all_new hDc ⟨_, rfl, ?_⟩
    rw [List.all_map, show g.all (id ∘ fun _ => true) = true from List.all_eq_true.mpr fun z h => rfl]
    refine iteF ?_
    have g12 := g1.trans g2
    refine ⟨v, rfl, v, rfl, 1, rfl, slQ_dp (hd.ex g12.ff) hq g12.fh fun r e F3 H3 g3 t he => ?_⟩
    have g13 := g12.trans g3
    refine zip_walk (hd.ex g13.ff) he t g13.fh fun J xs ys G w hG hx hy D hD => ?_
    have e1 : cutD (g.map PyData.str) (some 1) none = (g.drop 1).map .str := by rw [show (1 : Int) = ((1 : Nat) : Int) from rfl, cutD_from, List.map_drop]
    rw [e1, dps_str] at hy
    rw [dps_str] at hx
    subst hx hy
    have hn : (g.zip (g.drop 1)).length = min (g.map PyData.str).length (cutD (g.map PyData.str) (some 1) none).length := by rw [e1]; simp
    refine lc_bools K (bs := g.zip (g.drop 1)) (f := fun _ => true) (Im := fun b x F => ∃ T, x = .ref T ∧ F T = some (.tup [.str b.1, .str b.2])) (by rw [hn]; exact w) g13.fh hG (by rw [List.length_zip]; omega) (fun i b x F' H' H'' hb g1 y => ?_)
      (fun b x F' H' hb g1 im => ?_) hD fun F' H' g4 fD hDc => ?_
    · obtain ⟨T, x1, y1, rfl, hT, rfl, h1, h2⟩ := y
      refine ⟨_, (Gr.refl g1.fh).new hT, T, rfl, ?_⟩
      obtain ⟨i1, i2⟩ := List.getElem?_zip_eq_some.mp hb
      have h1' : (g.map V.str)[i]? = some x1 := h1
      have h2' : ((g.drop 1).map V.str)[i]? = some y1 := h2
      rw [List.getElem?_map, i1] at h1'
      rw [List.getElem?_map, i2] at h2'
      cases h1'
      cases h2'
      exact upd_same
    · obtain ⟨T, rfl, hT⟩ := im
      intro Yes No h0 h1
      refine ⟨T, [.str b.1, .str b.2], rfl, sees_t g1.fh (.inl (.inl hT)), rfl, _, _, rfl, _, _, rfl, rfl, rfl, yesI ⟨_, rfl, _, rfl, _, _, rfl, rfl, ?_⟩⟩
      have lt : b.1.cps.toList < b.2.cps.toList := pw_zip pw b hb
      exact h1 rfl _ F' H' (Gr.refl g1.fh) (congrArg V.bl (decide_eq_true lt))
    · refine all_new hDc ?_
      rw [List.all_map, show (g.zip (g.drop 1)).all (id ∘ fun _ => true) = true from List.all_eq_true.mpr fun z h => rfl]
      exact q _ _ (g13.trans g4)
theorem ok_need_groups {f C : Addr} {fd : FuncData} (F : Fun K "need_groups" "need_groups" s_need_groups f fd) (T : Txt mg) (TW_ : WaC K C) (C_is_listed : Cal P w K mg base "is_listed" 1 ["value"] [] (spListed K)) (C_is_group : Cal P w K mg base "is_group" 2 ["value", "marks"] [] (spGroup K)) :
    FnOk P w K mg base CX0 3 f fd ["wall", "value"] (spGroups K C) := by
  refine F.ok sc_need_groups (fun vs H Q E h => ?_) (fun cdv A outer s H vs Q E hr h => ?_)
  · obtain ⟨F0, x, s, v, d, b, e, rfl, _⟩ := h
    rfl
  · obtain ⟨F0, x, s, v, d, b, e, rfl, fs, ⟨⟨dx, D, vs, va, kvs, hx, hD, tl, hva⟩, ok⟩, hd, hq, he, okb, lm, q⟩ := h
    have hu16 := hu16_of hr
    refine ⟨_, (pss_cons (ps_if (PW.pt (pw_or (pt_not (pt_val (pe_cal C_is_listed (hr.mono (by decide)) (pa_cons (pv 1) pa_nil)))) (pw_or1 (pt_not (pt_val (pe_callB (cr_allD K) (by rfl) T.all bt_all (pa_cons (pe_lc (own := [("group", 2)]) rfl sc_need_groups.nd (zseq K (pv 1)) (blkOk_by (N := sc_need_groupsN) (sc := defScope s_need_groups) (by decide +kernel)) (fun _ _ _ _ _ => (zg (i := 2) sc_need_groups.nd)) (fun _ _ _ _ _ => pts_nil) (fun _ _ _ _ _ => (pe_cal C_is_group (hr.mono (by decide)) (pa_cons (pv 2) (pa_cons (zfld K (pv 0)) pa_nil))))) pa_nil)))))))
        (pss_one ps_never)
        pss_nil)
      (pss_cons (ps_setLc2 (i := 3) (own := [("group", 2), ("mark", 4)]) (vs1 := [4]) rfl sc_need_groups.nd rfl rfl (sw_true rfl rfl rfl (by decide +kernel)) (zseq K (pv 1)) (blkOk_by (N := sc_need_groupsN) (sc := defScope s_need_groups) (by decide +kernel)) (by decide) (fun _ _ _ _ _ => (zg (i := 2) sc_need_groups.nd)) (fun _ _ _ _ _ => pts_nil) (fun _ _ _ _ _ => (zseq K (pv 2))) (fun _ _ _ _ _ => (zg (i := 4) sc_need_groups.nd)) (fun _ _ _ _ _ => pts_nil) (fun _ _ _ _ _ => (pv 4)))
      (pss_cons (ps_if (pt_cmpR op_lt (pe_callB (cr_lenK w) (by rfl) T.len bt_len (pa_cons (pe_callTy (cr_setK K w) (by rfl) T.set bt_set (pa_cons (pv 3) pa_nil)) pa_nil)) (pe_callB (cr_len K) (by rfl) T.len bt_len (pa_cons (pv 3) pa_nil)) (nomark _))
        (pss_one ps_never)
        pss_nil)
      (pss_one (ps_ret (pe_callTy (cr_tuple K) (by rfl) T.tuple bt_tuple (pa_cons (pe_callB (cr_sortedD K hu16) (by rfl) T.sorted bt_sorted (pa_cons (pe_lc (own := [("group", 2)]) rfl sc_need_groups.nd (zseq K (pv 1)) (blkOk_by (N := sc_need_groupsN) (sc := defScope s_need_groups) (by decide +kernel)) (fun _ _ _ _ _ => (zg (i := 2) sc_need_groups.nd)) (fun _ _ _ _ _ => pts_nil) (fun _ _ _ _ _ => (pe_callTy (cr_tuple K) (by rfl) T.tuple bt_tuple (pa_cons (pv 2) pa_nil)))) pa_nil)) pa_nil))))))), ?_⟩
    have hl : isListed d = true := by rcases hq with rfl | rfl <;> rfl
    refine ⟨v, rfl, F0, v, d, rfl, fs, hd, fun F1 H1 g1 => ⟨_, rfl, ?_⟩⟩
    rw [hl]
    have lb := okb.few
    refine iteF ⟨v, rfl, seq_walk (hd.ex g1.ff) hq g1.fh fun J xs G w1 hG hxs hlen D1 hD1 => ?_⟩
    refine lc_seqB (bs := b) (enc := fun g => e (g.map .str)) (f := fun _ => true) w1 hxs g1.fh hG (by omega) (fun g y F2 H2 hg g2 hy => turn1 rfl fun Yes h => ?_) hD1 fun F2 H2 g2 fD hDc => ?_
    · have lg := okb.each hg
      exact ⟨_, rfl, _, rfl, x, C, dx, _, _, rfl, sees_i g2.fh (g2.ff _ _ (g1.ff _ _ hx)), TW_.cl, TW_.nA, rfl, F2, y, va, _, g, s.all, rfl, g2.fh, hy, he _, (hva.ex g1.ff).ex g2.ff, okb.ne g hg, fun m hm => okb.sub m (List.mem_flatten.mpr ⟨g, hg, hm⟩), okb.asc g hg, by omega, fun F3 H3 g3 => h _ _ _ g3 rfl⟩
    refine all_new hDc ⟨_, rfl, ?_⟩
    rw [List.all_map, show b.all (id ∘ fun _ => true) = true from List.all_eq_true.mpr fun z h => rfl]
    refine iteF ?_
    have g12 := g1.trans g2
    unfold tNext tSeq tAsg
    dsimp only
    refine flat2 (K := K) (wi := iSeq K (tVar 1)) (a := 2) (c := 4) (te := tVar 4) (own := [2, 4]) (σ := [some (.ref x), some v, none, none, none]) (e := e) .str (hd.ex g12.ff) hq he g12.fh (fun R h => ⟨_, rfl, h⟩) (fun _ => rfl) (fun _ _ => rfl) (fun _ => rfl) (by have := okb.flat; omega) (fun g' m y F' H' Yes _ _ g2 h => ⟨_, rfl, h _ (.str m)⟩) fun l acc F3 H3 g3 fl hl3 hacc => ?_
    have g13 := g12.trans g3
    rw [dps_str] at hacc
    subst hacc
    have lf := okb.flat
    refine ⟨_, rfl, l, b.flatten.map Sum.inr, rfl, .inl (by rw [keys_str]; exact .inl (.inl hl3)), by rw [List.length_map]; omega, fun q1 n hq1 hn hex => ⟨q1, b.flatten.map Sum.inr, n, rfl, upd_same, ?_⟩⟩
    have gB := g13.newM (o := SKO w q1 (b.flatten.map Sum.inr) n) hq1
    have hl4 : upd H3 q1 (SKO w q1 (b.flatten.map Sum.inr) n) l = some (.lst (b.flatten.map V.str)) := by rw [upd_ne (ne_of_none hl3 hq1)]; exact hl3
    refine ⟨_, rfl, .mk ⟨l, _, rfl, .inl (.inl (.inl hl4)), ?_⟩⟩
    obtain ⟨l', n1, n2, n3⟩ := hex
    have e1 : n = b.flatten.length := by
      rw [← n2]
      have z := nodup_len n1 (m := b.flatten.map Sum.inr) (List.pairwise_map.mpr (okb.nd.imp fun h e => h (Sum.inr.inj e))) n3
      rw [List.length_map] at z
      exact z
    refine ⟨_, _, rfl, rfl, _, rfl, iteNo (by rw [e1, List.length_map]; simp) ?_⟩
    generalize upd H3 q1 (SKO w q1 (b.flatten.map Sum.inr) n) = H4 at gB hl4 ⊢
    refine ⟨_, rfl, seq_walk (hd.ex gB.ff) hq gB.fh fun J2 xs2 G2 w2 hG2 hxs2 hlen2 D2 hD2 => ?_⟩
    refine lc_seqM (bs := b) (enc := fun g => e (g.map .str)) (f := encR) w2 hxs2 gB.fh hG2 (by omega) (fun g z F5 H5 hg g5 hz => turn1 rfl fun Yes2 h2 => ?_) hD2 fun acc2 F5 H5 g5 fD2 hDc2 hacc2 => ?_
    · exact ⟨_, rfl, tuple_dp hz (he _) g5.fh fun r F6 H6 g6 hr6 => h2 _ _ _ g6 hr6⟩
    · refine ⟨_, encR, b, D2, acc2, F5, rfl, g5.fh, .inl (.inl hDc2), hacc2, allAlike_R b, sortable_R okb.ne, fun g _ => by rw [depth_R]; decide, fun ys p hys hp => ?_⟩
      have g6 := (gB.trans g5).newM (o := .lst ys) hp
      refine .mk ⟨p, ys, rfl, .inl ⟨.inl (.inl upd_same), fun l5 hl5 => ?_⟩⟩
      have g7 := g6.new (o := .tup ys) hl5
      exact q _ _ _ g7 (.tup (.inl (.inl upd_same)) (hys.ex (Ex.new (g6.fh.dm hl5))))
end
end TW
set_option Elab.async false
set_option linter.all false
set_option maxRecDepth 100000
set_option maxHeartbeats 8000000
/-! list(zip(a, b)) -/
namespace TW
open PySem PySem.Spec PyProof.Rows L2 PySem.W PySem.Calls
/-- a zip of two lists, i pairs told; its last tuple is still out (S: the list that is made) -/
structure ZSt (h : Heap) (z TI TO i1 i2 l1 l2 S : Addr) (xs ys : Array Value) (i : Nat) : Prop where
  ti : IsPair h TI (.ref i1) (.ref i2)
  a1 : h.IsListIter i1 l1 i
  a2 : h.IsListIter i2 l2 i
  b1 : h.IsList l1 xs
  b2 : h.IsList l2 ys
  o : (IsZip h z TI TO .none ∧ ∃ a b, IsPair h TO a b) ∨ ∃ T f oT, IsZipHeld h z TI TO T f ∧ h.get? T = some oT ∧ T ≠ z ∧ T ≠ i1 ∧ T ≠ i2 ∧ T ≠ S
structure ZOff (z TI TO i1 i2 l1 l2 S : Addr) : Prop where
  z : S ≠ z
  TI : S ≠ TI
  TO : S ≠ TO
  i1 : S ≠ i1
  i2 : S ≠ i2
  l1 : S ≠ l1
  l2 : S ≠ l2
section
variable {z TI TO i1 i2 l1 l2 S : Addr} {xs ys : Array Value} {i : Nat}
theorem ZSt.keep {h h' : Heap} (a : ZSt h z TI TO i1 i2 l1 l2 S xs ys i) (f : ZOff z TI TO i1 i2 l1 l2 S) (k : ∀ b o, b ≠ S → h.get? b = some o → h'.get? b = some o) : ZSt h' z TI TO i1 i2 l1 l2 S xs ys i where
  ti := k _ _ f.TI.symm a.ti
  a1 := a.a1.at fun o e => k _ o f.i1.symm e
  a2 := a.a2.at fun o e => k _ o f.i2.symm e
  b1 := a.b1.at fun o e => k _ o f.l1.symm e
  b2 := a.b2.at fun o e => k _ o f.l2.symm e
  o := a.o.imp (fun ⟨q, u, v, e⟩ => ⟨k _ _ f.z.symm q, u, v, k _ _ f.TO.symm e⟩) fun ⟨T, g, oT, q, e, n1, n2, n3, n4⟩ => ⟨T, g, oT, k _ _ f.z.symm q, k _ _ n4 e, n1, n2, n3, n4⟩
end
section
variable {prog : Program} {w : World} {A : Around} {E : Value → Shared → Prop} {s : Shared} {z TI TO i1 i2 l1 l2 S : Addr} {xs ys : Array Value} {i : Nat}
theorem zl_item {x y : Value} {Q : Option Value → Shared → Prop} (D : ZipApart z TI TO i1 i2 l1 l2) (st : ZSt s.heap z TI TO i1 i2 l1 l2 S xs ys i) (hS : S < s.heap.objs.size) (hx : xs[i]? = some x) (hy : ys[i]? = some y)
    (q : ∀ h', ZSt h' z TI TO i1 i2 l1 l2 S xs ys (i + 1) → IsPair h' s.heap.objs.size x y → h'.objs.size = s.heap.objs.size + 1 → (∀ c o, c ≠ z → c ≠ TO → c ≠ i1 → c ≠ i2 → s.heap.get? c = some o → h'.get? c = some o) → Q (some (.ref s.heap.objs.size)) { s with heap := h' }) :
    wpAny (model prog w) A (pyNext (.ref z)) Q E s := by
  obtain ⟨ti, a1, a2, b1, b2, o⟩ := st
  have n1 : s.heap.objs.size ≠ i1 := by obtain ⟨_, e, _⟩ := a1; exact Nat.ne_of_gt (Heap.lt_size e)
  have n2 : s.heap.objs.size ≠ i2 := by obtain ⟨_, e, _⟩ := a2; exact Nat.ne_of_gt (Heap.lt_size e)
  have nS : s.heap.objs.size ≠ S := Nat.ne_of_gt hS
  rcases o with ⟨hz, u, v, hTO⟩ | ⟨T, f, oT, hz, hT, t1, t2, t3, t4⟩
  · have nz : s.heap.objs.size ≠ z := Nat.ne_of_gt (Heap.lt_size hz)
    refine wpAny_pyNext_zip_item D hz ti hTO a1 a2 b1 b2 hx hy fun h' e1 e2 e3 e4 e5 e6 k => q h' ⟨k _ _ D.TIz D.TITO D.TIi1 D.TIi2 ti, e3, e4, b1.at fun o e => k _ o D.l1z D.l1TO D.l1i1 D.l1i2 e, b2.at fun o e => k _ o D.l2z D.l2TO D.l2i1 D.l2i2 e, .inr ⟨_, false, _, e1, e5, nz, n1, n2, nS⟩⟩ e5 e6 k
  · have nz : s.heap.objs.size ≠ z := Nat.ne_of_gt (Heap.lt_size hz)
    refine wpAny_pyNext_zip_item_held D hz hT ti a1 a2 b1 b2 hx hy fun h' e1 e3 e4 e5 e6 k => q h' ⟨k _ _ D.TIz D.TIi1 D.TIi2 ti, e3, e4, b1.at fun o e => k _ o D.l1z D.l1i1 D.l1i2 e, b2.at fun o e => k _ o D.l2z D.l2i1 D.l2i2 e, .inr ⟨T, true, oT, e1, k _ _ t1 t2 t3 hT, t1, t2, t3, t4⟩⟩ e5 e6 fun c o c1 _ c3 c4 => k c o c1 c3 c4
theorem zl_end {Q : Option Value → Shared → Prop} (hh : A.handled = none) (D : ZipApart z TI TO i1 i2 l1 l2) (st : ZSt s.heap z TI TO i1 i2 l1 l2 S xs ys i) (he : xs[i]? = none ∨ ys[i]? = none)
    (q : ∀ h', (∀ c o, c ≠ z → c ≠ TO → c ≠ i1 → c ≠ i2 → s.heap.get? c = some o → h'.get? c = some o) → Q none { s with heap := h' }) : wpAny (model prog w) A (pyNext (.ref z)) Q E s := by
  obtain ⟨ti, a1, a2, b1, b2, o⟩ := st
  rcases o with ⟨hz, u, v, hTO⟩ | ⟨T, f, oT, hz, hT, t1, t2, t3, t4⟩
  · exact wpAny_pyNext_zip_end hh D hz ti hTO a1 a2 b1 b2 he q
  · exact wpAny_pyNext_zip_end_held hh D hz hT ti a1 a2 b1 b2 he fun h' k => q h' fun c o c1 _ c3 c4 => k c o c1 c3 c4
/-- the pairs that were told -/
structure ZGot (xs ys : Array Value) (lo : Addr) (h : Heap) (as : List Addr) : Prop where
  up : as.Pairwise (· < ·)
  ab : ∀ a ∈ as, lo < a
  at' : ∀ (j : Nat) (a : Addr), as[j]? = some a → ∃ x y, xs[j]? = some x ∧ ys[j]? = some y ∧ IsPair h a x y
theorem ZGot.lt {lo : Addr} {h : Heap} {as : List Addr} (g : ZGot xs ys lo h as) {a : Addr} (ha : a ∈ as) : a < h.objs.size := by
  obtain ⟨j, hj⟩ := List.mem_iff_getElem?.mp ha
  obtain ⟨_, _, _, _, e⟩ := g.at' j a hj
  exact Heap.lt_size e
/-- all but what a zip and its list change -/
def zKept (h h' : Heap) (z TO i1 i2 S : Addr) : Prop := ∀ b o, b ≠ S → b ≠ z → b ≠ TO → b ≠ i1 → b ≠ i2 → h.get? b = some o → h'.get? b = some o
theorem zl_loop {R : Result → Shared → Prop} (hh : A.handled = none) (D : ZipApart z TI TO i1 i2 l1 l2) (f : ZOff z TI TO i1 i2 l1 l2 S) (lt : z < S ∧ TO < S ∧ i1 < S ∧ i2 < S) {n : Nat} (en : n = min xs.size ys.size) (hn : n ≤ sizeLine) (res : Value) {h₀ : Heap}
    (q : ∀ h' tk acc c as, zKept h₀ h' z TO i1 i2 S → h'.get? S = some { cls := .type "list", dict := none, data := .seq acc c, slots := #[] } → as.length = n → ZGot xs ys S h' as → acc.toList = as.map Value.ref → R (.ok (.ret res)) { s with heap := h', toks := tk }) :
    ∀ (m i : Nat) (h : Heap) (tk c : Nat) (acc : Array Value) (as : List Addr), n - i = m → i ≤ n → ZSt h z TI TO i1 i2 l1 l2 S xs ys i → zKept h₀ h z TO i1 i2 S → h.get? S = some { cls := .type "list", dict := none, data := .seq acc c, slots := #[] } →
      acc.toList = as.map Value.ref → as.length = i → ZGot xs ys S h as → codeAny (model prog w) A (.builtin "list.extend.loop" ⟨[.ref S, .ref z, res], []⟩) R { s with heap := h, toks := tk } := by
  intro m
  induction m with
  | zero =>
    intro i h tk c acc as hm hi st kp hS hacc hal hG
    refine codeAny_builtin PySem.F.entry_extend_loop ?_
    rw [Around.under_plainId PySem.F.plain_extend_loop _]
    show wpAny _ A.in1 (pyNext (.ref z) >>= _) _ _ _
    refine wpAny_bind (zl_end (s := { s with heap := h, toks := tk }) (A := A.in1) hh D st ?_ fun h' k => ?_)
    · rcases Nat.le_total xs.size ys.size with e | e
      · exact .inl (Array.getElem?_eq_none (by omega))
      · exact .inr (Array.getElem?_eq_none (by omega))
    · refine wpAny_pure (q h' tk acc c as (fun b o b0 b1 b2 b3 b4 e => k b o b1 b2 b3 b4 (kp b o b0 b1 b2 b3 b4 e)) (k S _ f.z f.TO f.i1 f.i2 hS) (by omega) ⟨hG.up, hG.ab, fun j a hj => ?_⟩ hacc)
      obtain ⟨x, y, e1, e2, e3⟩ := hG.at' j a hj
      have ga := hG.ab a (List.mem_of_getElem? hj)
      exact ⟨x, y, e1, e2, k a _ (Nat.ne_of_gt (Nat.lt_trans lt.1 ga)) (Nat.ne_of_gt (Nat.lt_trans lt.2.1 ga)) (Nat.ne_of_gt (Nat.lt_trans lt.2.2.1 ga)) (Nat.ne_of_gt (Nat.lt_trans lt.2.2.2 ga)) e3⟩
  | succ m ih =>
    intro i h tk c acc as hm hi st kp hS hacc hal hG
    have hx : xs[i]? = some (xs[i]'(by omega)) := Array.getElem?_eq_getElem (by omega)
    have hy : ys[i]? = some (ys[i]'(by omega)) := Array.getElem?_eq_getElem (by omega)
    have hsz : acc.size = i := by rw [← Array.length_toList, hacc, List.length_map, hal]
    have hSl : S < h.objs.size := Heap.lt_size hS
    refine codeAny_builtin PySem.F.entry_extend_loop ?_
    rw [Around.under_plainId PySem.F.plain_extend_loop _]
    show wpAny _ A.in1 (pyNext (.ref z) >>= _) _ _ _
    refine wpAny_bind (zl_item (s := { s with heap := h, toks := tk }) D st hSl hx hy fun h' st' hp hz k => ?_)
    dsimp only at hp hz k ⊢
    have hS' := k S _ f.z f.TO f.i1 f.i2 hS
    have up : ∀ b o, b ≠ S → h'.get? b = some o → (h'.update S (Obj.mapSeq (·.push (Value.ref h.objs.size)))).get? b = some o := fun b o hb e => (Heap.get?_update_other _ _ (Ne.symm hb)).trans e
    have far : ∀ a, S < a → a ≠ z ∧ a ≠ TO ∧ a ≠ i1 ∧ a ≠ i2 := fun a ga => ⟨Nat.ne_of_gt (Nat.lt_trans lt.1 ga), Nat.ne_of_gt (Nat.lt_trans lt.2.1 ga), Nat.ne_of_gt (Nat.lt_trans lt.2.2.1 ga), Nat.ne_of_gt (Nat.lt_trans lt.2.2.2 ga)⟩
    show wpAny _ A.in1 (updateSeq S (·.push (Value.ref h.objs.size)) >>= _) _ _ _
    refine wpAny_bind ?_
    refine wpAny_updateSeq hS' rfl (wpAny_pure ⟨plainId_quiet PySem.F.plain_extend_loop _, ih (i + 1) _ tk _ (acc.push (Value.ref h.objs.size)) (as ++ [h.objs.size]) (by omega) (by omega) (st'.keep f up)
      (fun b o b0 b1 b2 b3 b4 e => up b o b0 (k b o b1 b2 b3 b4 (kp b o b0 b1 b2 b3 b4 e))) (Heap.get?_update_self _ hS' rfl) (by rw [Array.toList_push, hacc, List.map_append]; rfl) (by rw [List.length_append, hal]; rfl) ⟨?_, ?_, ?_⟩⟩) (by rw [hsz]; omega) (by show (acc.push (Value.ref h.objs.size)).size ≤ sizeLine + 1; rw [Array.size_push, hsz]; omega)
    · refine List.pairwise_append.mpr ⟨hG.up, List.pairwise_singleton _ _, fun a ha b hb => ?_⟩
      rw [List.mem_singleton.mp hb]
      exact hG.lt ha
    · intro a ha
      rcases List.mem_append.mp ha with ha | ha
      · exact hG.ab a ha
      · rw [List.mem_singleton.mp ha]; exact hSl
    · intro j b hj
      by_cases h1 : j < as.length
      · rw [List.getElem?_append_left h1] at hj
        obtain ⟨x', y', e1, e2, e3⟩ := hG.at' j b hj
        have gb := hG.ab b (List.mem_of_getElem? hj)
        obtain ⟨f1, f2, f3, f4⟩ := far b gb
        exact ⟨x', y', e1, e2, up b _ (Nat.ne_of_gt gb) (k b _ f1 f2 f3 f4 e3)⟩
      · have h2 : j = as.length := by
          have := (List.getElem?_eq_some_iff.mp hj).1
          rw [List.length_append, List.length_singleton] at this
          omega
        subst h2
        have hb : h.objs.size = b := by simpa using hj
        subst hb
        exact ⟨_, _, by rw [hal]; exact hx, by rw [hal]; exact hy, up _ _ (Nat.ne_of_gt hSl) hp⟩
theorem zip_no_len : typeLookup (.type "zip") "__len__" = pure none := by rw [typeLookup_type, builtinLookup_eq_fast]; kernel_rfl
theorem zip_no_hint : typeLookup (.type "zip") "__length_hint__" = pure none := by rw [typeLookup_type, builtinLookup_eq_fast]; kernel_rfl
theorem zl_call {Q : Value → Shared → Prop} (hh : A.handled = none) (D : ZipApart z TI TO i1 i2 l1 l2) (st : ∀ S, ZSt s.heap z TI TO i1 i2 l1 l2 S xs ys 0) (hz0 : IsZip s.heap z TI TO .none) (hTO : ∃ a b, IsPair s.heap TO a b) (hn : min xs.size ys.size ≤ sizeLine)
    (q : ∀ h' tk acc c as, zKept s.heap h' z TO i1 i2 s.heap.objs.size → h'.get? s.heap.objs.size = some { cls := .type "list", dict := none, data := .seq acc c, slots := #[] } → as.length = min xs.size ys.size → ZGot xs ys s.heap.objs.size h' as → acc.toList = as.map Value.ref →
      Q (.ref s.heap.objs.size) { s with heap := h', toks := tk }) : wpAny (model prog w) A (call (.type "list") [.ref z]) Q E s := by
  obtain ⟨ti, a1, a2, b1, b2, _⟩ := st 0
  obtain ⟨ua, ub, hTO⟩ := hTO
  have lz : z < s.heap.objs.size := Heap.lt_size hz0
  have lTI : TI < s.heap.objs.size := Heap.lt_size ti
  have lTO : TO < s.heap.objs.size := Heap.lt_size hTO
  have li1 : i1 < s.heap.objs.size := by obtain ⟨_, e, _⟩ := a1; exact Heap.lt_size e
  have li2 : i2 < s.heap.objs.size := by obtain ⟨_, e, _⟩ := a2; exact Heap.lt_size e
  have ll1 : l1 < s.heap.objs.size := by obtain ⟨_, e, _⟩ := b1; exact Heap.lt_size e
  have ll2 : l2 < s.heap.objs.size := by obtain ⟨_, e, _⟩ := b2; exact Heap.lt_size e
  have off : ZOff z TI TO i1 i2 l1 l2 s.heap.objs.size := ⟨Nat.ne_of_gt lz, Nat.ne_of_gt lTI, Nat.ne_of_gt lTO, Nat.ne_of_gt li1, Nat.ne_of_gt li2, Nat.ne_of_gt ll1, Nat.ne_of_gt ll2⟩
  refine callType_codes (Q₁ := fun obj s₁ => obj = .ref s.heap.objs.size ∧ s₁ = { s with heap := s.heap.push { cls := .type "list", data := .seq #[] } }) PySem.F.called_list (PySem.F.typeCall_list_1 _) PySem.F.entry_list_init
    (code_list_new _ ⟨rfl, rfl⟩) fun obj s₁ h₁ => ?_
  obtain ⟨rfl, rfl⟩ := h₁
  have hS : (s.heap.push { cls := .type "list", data := .seq #[] }).get? s.heap.objs.size = some { cls := .type "list", data := .seq #[] } := Heap.get?_push_size _ rfl
  refine ⟨⟨_, hS, rfl⟩, PySem.F.args_list_init_2 _ _, ?_⟩
  show wpAny _ A.in1.in1 (do let old ← Builtin.List.listItems (.ref s.heap.objs.size); Builtin.List.listUpdate (.ref s.heap.objs.size) (fun _ => #[]); letGo old.toList.reverse; Builtin.List.listExtendWith (.ref s.heap.objs.size) (.ref z) .none) _ _ _
  refine wpAny_bind ?_
  unfold Builtin.List.listItems
  refine wpAny_bind (wpAny_seqItems hS rfl (wpAny_pure ?_))
  show wpAny _ A.in1.in1 (updateSeq s.heap.objs.size (fun _ => #[]) >>= fun _ => letGo (#[] : Array Value).toList.reverse >>= fun _ => Builtin.List.listExtendWith (.ref s.heap.objs.size) (.ref z) .none) _ _ _
  refine wpAny_bind (wpAny_updateSeq hS rfl ?_)
  have hS2 := Heap.get?_update_self (Obj.mapSeq (fun _ => (#[] : Array Value))) hS rfl
  refine wpAny_bind (wpAny_letGo ?_)
  have oth : ∀ (h : Heap) (g : Obj → Obj), (∀ b o, b ≠ s.heap.objs.size → s.heap.get? b = some o → h.get? b = some o) → ∀ b o, b ≠ s.heap.objs.size → s.heap.get? b = some o → (h.update s.heap.objs.size g).get? b = some o := fun h g k b o nb e =>
    (Heap.get?_update_other _ _ (Ne.symm nb)).trans (k b o nb e)
  have k1 : ∀ b o, b ≠ s.heap.objs.size → s.heap.get? b = some o → (s.heap.push { cls := .type "list", data := .seq #[] }).get? b = some o := fun b o _ e => Heap.get?_push_of_some _ e
  have k2 := oth _ (Obj.mapSeq (fun _ => (#[] : Array Value))) k1
  unfold Builtin.List.listExtendWith
  have hT : Shared.TypeIs { s with heap := (s.heap.push { cls := .type "list", data := .seq #[] }).update s.heap.objs.size (Obj.mapSeq (fun _ => (#[] : Array Value))) } (.ref z) "zip" := ⟨_, k2 z _ (Nat.ne_of_lt lz) hz0, rfl⟩
  refine wpAny_bind (wpAny_typeOf hT ?_)
  have h1 : Builtin.List.listSameRef (.ref s.heap.objs.size) (.ref z) = false := by simp [Builtin.List.listSameRef, Nat.ne_of_gt lz]
  have h2 : (Value.type "zip" == Value.type "list") = false := by decide
  have h3 : (Value.type "zip" == Value.type "tuple") = false := by decide
  simp only [h1, h2, h3, Bool.or_false, Bool.false_eq_true, if_false]
  refine wpAny_bind (wpAny_pyIter_zip (k2 z _ (Nat.ne_of_lt lz) hz0) ?_)
  refine wpAny_bind (wpAny_holding ?_)
  unfold Builtin.List.listLengthHint
  refine wpAny_bind (wpAny_specialOf hT zip_no_len ?_)
  show wpAny _ A.in1.in1 (specialOf (Value.ref z) (Str.ofString "__length_hint__") >>= _) _ _ _
  refine wpAny_bind (wpAny_specialOf hT zip_no_hint ?_)
  refine wpAny_pure ?_
  show wpAny _ A.in1.in1 (rule "list.extend.makes-room" >>= fun _ => Builtin.List.listTouch (.ref s.heap.objs.size) >>= fun _ =>
    again (.builtin "list.extend.loop" ⟨[.ref s.heap.objs.size, .ref z, .none], []⟩)) _ _ _
  refine wpAny_bind (wpAny_rule ?_)
  refine wpAny_bind ?_
  show wpAny _ A.in1.in1 (updateSeq s.heap.objs.size (·.push .none) >>= fun _ => updateSeq s.heap.objs.size (·.pop)) _ _ _
  refine wpAny_bind (wpAny_updateSeq hS2 rfl ?_)
  have hS3 := Heap.get?_update_self (Obj.mapSeq (·.push Value.none)) hS2 rfl
  refine wpAny_updateSeq (hz := by seq_fits) hS3 rfl ?_
  have hS4 := Heap.get?_update_self (Obj.mapSeq (·.pop)) hS3 rfl
  have k4 := oth _ (Obj.mapSeq (·.pop)) (oth _ (Obj.mapSeq (·.push Value.none)) k2)
  refine wpAny_pure ⟨plainId_quiet PySem.F.plain_extend_loop _, ?_⟩
  refine zl_loop (A := A.in1) (s := s) (h₀ := s.heap) hh D off ⟨lz, lTO, li1, li2⟩ rfl hn .none (fun h' tk acc c as kk hS' hl hG hacc => ?_) _ 0 _ _ _ #[] [] rfl (Nat.zero_le _) ((st _).keep off k4) (fun b o b0 _ _ _ _ e => k4 b o b0 e) hS4 rfl rfl ⟨List.Pairwise.nil, (fun _ ha => nomatch ha), (fun j a hj => by simp at hj)⟩
  exact ⟨rfl, q h' tk acc c as kk hS' hl hG hacc⟩
end
end TW
set_option Elab.async false
set_option linter.all false
set_option maxRecDepth 100000
set_option maxHeartbeats 8000000
/-! list(zip(a, b)) as an expression; calls by keywords alone -/
namespace TW
open PySem PySem.Spec PyProof.Rows L2 PySem.W PySem.Calls
open Evl (Ex)
/-- list(zip(a, b)), the first list's items keys -/
structure rLZ (K : PySem.W.Frag) (vs : List V) (H1 : Hp) (Q : VK) : Prop where
  r : ∃ (a b : Addr) (ks : List Key) (ys : List V), vs = [.ref a, .ref b] ∧ SqL K H1 a (ks.map kV) ∧ SqL K H1 b ys ∧
    ∀ (H' : Hp) (S : Addr) (as : List Addr), Ex H1 H' → H1 S = none → (∀ t ∈ as, H1 t = none) → S ∉ as → H' S = some (.lst (as.map V.ref)) → Paired (fun (t : Addr) (q : Key × V) => H' t = some (.tup [kV q.1, q.2])) as (ks.zip ys) → Q (.ref S) H'
def tLZ (K : PySem.W.Frag) (ta : TA) : TE := fun σ H Q => ta σ H fun vs H1 => rLZ K vs H1 Q
section
variable {X : Cx} {pins : List (Addr × Obj)} {σ : L2.St} {H : Hp} {s : Shared}
theorem zl_laid {h' : Heap} {tk : Nat} {kvs : List (Key × V)} {acc : Array Value} {c : Nat} {as : List Addr} {S : Addr} (I : Inv X pins σ H s) (hz : kvs.length ≤ sizeLine) (kp : ∀ b o, s.heap.get? b = some o → h'.get? b = some o) (ge : s.heap.objs.size ≤ S)
    (hS : h'.get? S = some { cls := .type "list", dict := none, data := .seq acc c, slots := #[] }) (up : as.Pairwise (· < ·)) (ab : ∀ a ∈ as, S < a) (hacc : acc.toList = as.map Value.ref) (hl : as.length = kvs.length)
    (hp : ∀ (j : Nat) (a : Addr), as[j]? = some a → ∃ (q : Key × V) (x y : Value), kvs[j]? = some q ∧ RelV (kV q.1) x ∧ RelV q.2 y ∧ IsPair h' a x y) :
    ∃ H' : Hp, Ex H H' ∧ H S = none ∧ (∀ t ∈ as, H t = none) ∧ S ∉ as ∧ H' S = some (.lst (as.map V.ref)) ∧ Paired (fun (t : Addr) (q : Key × V) => H' t = some (.tup [kV q.1, q.2])) as kvs ∧ Inv X pins σ H' { s with heap := h', toks := tk } := by
  have nS : S ∉ as := fun z => Nat.lt_irrefl _ (ab S z)
  have nd : as.Nodup := up.imp fun h => Nat.ne_of_lt h
  have fr : ∀ t ∈ as, H t = none := fun t ht => I.hok.fresh (Nat.le_trans ge (Nat.le_of_lt (ab t ht)))
  have frS : H S = none := I.hok.fresh ge
  have atP := LiI.putT_at as kvs (upd H S (.lst (as.map V.ref))) hl nd
  have old : ∀ b, b ∉ as → b ≠ S → LiI.putT (upd H S (.lst (as.map V.ref))) as kvs b = H b := fun b h1 h2 => by rw [LiI.putT_off as kvs _ h1, upd_ne h2]
  have ex : Ex H (LiI.putT (upd H S (.lst (as.map V.ref))) as kvs) := fun b u e => by
    rw [old b (fun z => by rw [fr b z] at e; cases e) (fun z => by rw [z, frS] at e; cases e)]
    exact e
  have eS : LiI.putT (upd H S (.lst (as.map V.ref))) as kvs S = some (.lst (as.map V.ref)) := by rw [LiI.putT_off as kvs _ nS, upd_same]
  refine ⟨LiI.putT (upd H S (.lst (as.map V.ref))) as kvs, ex, frS, fr, nS, eS, atP, ?_⟩
  refine I.call' (ch := []) rfl ⟨fun b o q _ _ _ => kp b o q, fun b o q _ _ _ => ⟨o.slots, kp b o q⟩, fun b o q n _ => ?_, fun b o q _ => ⟨o, kp b o q⟩, fun b xs q => ex b _ q, fun b o u q => ex b _ q, fun b ps q => ⟨#[], by rw [ex b _ q]; simp⟩⟩ (fun b u q => ?_) I.bare fun b z => by simp at z
  · have lb := Heap.lt_size q
    rw [old b (fun z => absurd lb (Nat.not_lt.mpr (Nat.le_trans ge (Nat.le_of_lt (ab b z))))) (fun z => absurd lb (Nat.not_lt.mpr (z ▸ ge)))]
    exact n
  · by_cases hb : b ∈ as
    · obtain ⟨j, pk, e1, e2, e3⟩ := LiI.paired_ix atP hb
      rw [e3] at q
      cases q
      obtain ⟨p', x, y, f1, f2, f3, f4⟩ := hp j b e1
      rw [e2] at f1
      cases f1
      exact ⟨by show 2 ≤ sizeLine; decide, [x, y], .cons f2 (.cons f3 .nil), ⟨_, f4, rfl, _, rfl⟩⟩
    · by_cases hb2 : b = S
      · subst hb2
        rw [eS] at q
        cases q
        refine ⟨by rw [List.length_map]; omega, acc.toList, c, by rw [hacc]; exact LiI.vals_refs as, ?_⟩
        rw [Array.toArray_toList]
        exact hS
      · rw [old b hb hb2] at q
        exact (I.hok b u q).stay (fun d v _ y => kp d _ y) (fun d y => ex d _ y) fun d xs y => ex d _ y
theorem pe_listZip {a b : Expr} {ta : TA} {p p2 pos pos2 : Pos} (K : PySem.W.Frag) (ha : PA X [a, b] ta) (hml : X.mg "list" = none) (hmz : X.mg "zip" = none) (hc : X.calm = true := by rfl) (hK : X.K = K := by rfl) (hg : Gl X "list" := by rfl) (hg2 : Gl X "zip" := by rfl)
    (hs : starEach [.Call (.Name "zip" p2) [a, b] [] pos2] X.env = (false, eval (.Call (.Name "zip" p2) [a, b] [] pos2) X.env) :: starEach [] X.env := by rfl) (hs2 : starEach [a, b] X.env = (false, eval a X.env) :: starEach [b] X.env := by rfl) (hpl : (backTo pos2 (starEach [b] X.env)).any (·.1) = false := by rfl) :
    PE X (.Call (.Name "list" p) [.Call (.Name "zip" p2) [a, b] [] pos2] [] pos) (tLZ K ta) := by
  subst hK
  refine ⟨fun pins s σ H Q I h => ?_⟩
  refine wpAny_Call_Name_kw (ld_blt I hg hml bt_list ?_)
  refine PyProof.Rows.callWith_type1 ?_ hs rfl
  rw [hs]
  show wpAny _ _ (spliced ((false, eval (.Call (.Name "zip" p2) [a, b] [] pos2) X.env) :: backTo pos (starEach [] X.env))) _ _ s
  refine Calls.spliced_cons ?_
  refine Call_ (ld_blt I hg2 hmz PyProof.Rows.boot_zip (PyProof.Rows.callWith_type1 (thn (ha.run pos2 pins s σ H _ I h) fun us s1 ⟨vs, H1, I1, r1, q1⟩ => ?_) hs2 hpl))
  obtain ⟨la, lb, ks, ys, ex, qa, qb, q3⟩ := q1.r
  subst ex
  obtain ⟨u1, u2, rfl, r3, r4⟩ := vals2 r1
  cases r3
  cases r4
  obtain ⟨its, rv, p1, z1⟩ := I1.list qa
  obtain ⟨its2, rv2, p2', z2⟩ := I1.list qb
  refine call_zip_2 p1.isList p2'.isList fun hz h1 h2 h3 h4 h5 hsz hk => ?_
  refine Calls.spliced_nil ?_
  have D := PySem.W.ktu_apart s1.heap.objs.size la lb p1.lt p2'.lt
  have l1 : hz.IsList la its.toArray := p1.isList.at fun o e => hk _ o e
  have l2 : hz.IsList lb its2.toArray := p2'.isList.at fun o e => hk _ o e
  refine zl_call (s := { s1 with heap := hz }) (z := s1.heap.objs.size + 4) (I1.ok.hd hc) D (fun S => ⟨h2, h4, h5, l1, l2, .inl ⟨h1, _, _, h3⟩⟩) h1 ⟨_, _, h3⟩ (by have := rv.length; simp only [List.size_toArray]; omega) fun h' tk acc c as kk hS hl hG hacc => ?_
  have hsz' : Shared.heap { s1 with heap := hz } = hz := rfl
  simp only [hsz'] at kk hS hG ⊢
  rw [hsz] at kk hS hG ⊢
  have kp : ∀ b o, s1.heap.get? b = some o → h'.get? b = some o := fun b o e => by
    have lb := Heap.lt_size e
    exact kk b o (Nat.ne_of_lt (Nat.lt_add_right 5 lb)) (Nat.ne_of_lt (Nat.lt_add_right 4 lb)) (Nat.ne_of_lt (Nat.lt_add_right 3 lb)) (Nat.ne_of_lt lb) (Nat.ne_of_lt (Nat.lt_add_right 1 lb)) (hk b o e)
  have e1 := rv.length
  have e2 := rv2.length
  rw [List.length_map] at e1
  have hlen : as.length = (ks.zip ys).length := by rw [hl, List.length_zip, List.size_toArray, List.size_toArray, e1, e2]
  obtain ⟨H', x1, x2, x3, x4, x5, x6, J⟩ := zl_laid (S := s1.heap.objs.size + 5) (tk := tk) (kvs := ks.zip ys) (as := as) I1 (by rw [List.length_zip]; omega) kp (by omega) hS hG.up hG.ab hacc hlen fun j a' hj => by
    obtain ⟨x, y, f1, f2, f3⟩ := hG.at' j a' hj
    have f1 : its[j]? = some x := by simpa using f1
    have f2 : its2[j]? = some y := by simpa using f2
    have jl : j < ks.length := by rw [e1]; exact (List.getElem?_eq_some_iff.mp f1).1
    have jl2 : j < ys.length := by rw [e2]; exact (List.getElem?_eq_some_iff.mp f2).1
    obtain ⟨u1, w1, w2⟩ := rv.get (i := j) (x := kV ks[j]) (by rw [List.getElem?_map, List.getElem?_eq_getElem jl]; rfl)
    obtain ⟨u2, w3, w4⟩ := rv2.get (i := j) (List.getElem?_eq_getElem jl2)
    rw [f1] at w1
    rw [f2] at w3
    cases w1
    cases w3
    exact ⟨(ks[j], ys[j]), x, y, List.getElem?_zip_eq_some.mpr ⟨List.getElem?_eq_getElem jl, List.getElem?_eq_getElem jl2⟩, w2, w4, f3⟩
  exact ⟨.ref _, H', J, rfl, q3 H' _ as x1 x2 x3 x4 x5 x6⟩
end
/-- several new finished objects -/
theorem Gr.more {B : List Addr} {F H F1 H1 H' : Hp} (g : Gr B F H F1 H1) (e : Ex H1 H') (N : List Addr) (hn : ∀ a ∈ N, H1 a = none) : Gr B F H (fun a => if a ∈ N then H' a else F1 a) H' := g.trans (B' := []) {
  ff := fun a o h => by
    have z : a ∉ N := fun m => by rw [g.fh.dm (hn a m)] at h; cases h
    show (if a ∈ N then H' a else F1 a) = some o
    rw [if_neg z]; exact h
  hh := fun a o _ h => e a o h
  fh := fun a o h => by
    have h : (if a ∈ N then H' a else F1 a) = some o := h
    by_cases m : a ∈ N
    · rw [if_pos m] at h; exact .inl h
    · rw [if_neg m] at h
      rcases g.fh a o h with z | ⟨ob, kvs, z1, z2⟩
      · exact .inl (e a o z)
      · exact .inr ⟨ob, kvs, z1, e _ _ z2⟩
  nw := fun a o h => by
    have h : (if a ∈ N then H' a else F1 a) = some o := h
    by_cases m : a ∈ N
    · exact .inr (by rw [hn a m]; exact .n)
    · rw [if_neg m] at h; exact .inl h
  dm := fun a h => by
    cases z : H1 a with
    | none => rfl
    | some o => rw [e a o z] at h; cases h
  dt := fun a h => by
    cases z : H1 a with
    | none => exact .n
    | some o => rw [e a o z] at h; exact h }
/-! ### calls by keywords alone -/
theorem Vals.rev : ∀ {xs : List V} {us : List Value}, Vals xs us → Vals xs.reverse us.reverse
  | _, _, .nil => .nil
  | _, _, .cons r t => by
    rw [List.reverse_cons, List.reverse_cons]
    exact (Vals.rev t).append (.cons r .nil)
/-- the keywords stand in the parameters' order, from the last to the first -/
def back {α : Type} (us ws : List α) : List α := match us with
  | [] => ws.reverse
  | _ :: _ => []
/-- the def named x, called by the keywords ks alone -/
structure CalB (P : Program) (w : World) (K : PySem.W.Frag) (mg : Str → Option Value) (base : Heap) (x : Str) (k : Nat) (ps ks : List Str) (sp : Sp) : Prop where
  ex : ∃ (f : Addr) (fd : FuncData), mg x = some (.ref f) ∧ PySem.W.keepIn K (.ref f) = true ∧ KBinds K fd ps ks back back ∧ FnOk P w K mg base CX0 k f fd ps sp
theorem Fun.back {K : PySem.W.Frag} {x qual : Str} {st : Stmt} {f : Addr} {fd : FuncData} {ps ks : List Str} (F : Fun K x qual st f fd)
    (h : ∀ (kV doc pm : Value) (an : Option Addr) (cdv ct : Value) (ws : List Value), ws.length = ps.length → bindArgs (PySem.W.fnOf x qual (defArgs st) (defBody st) (defScope st) .none kV doc pm an cdv ct) ⟨[], ks.zip ws⟩ = pure (ps.zip ws.reverse)) (hps : ps ≠ []) : KBinds K fd ps ks TW.back TW.back := by
  obtain ⟨oc, od, kV, doc, pm, an, cdv, ct, osl, rfl, lk, hcd⟩ := F.ex
  refine ⟨fun s us ws _ hl => ?_, fun {vs us zs ws} r1 r2 => ?_⟩
  · cases us with
    | nil => exact .of_eq (h kV doc pm an cdv ct ws (by rw [← hl]; exact (List.length_reverse).symm))
    | cons a b => exact absurd (List.length_eq_zero_iff.mp hl.symm) hps
  · cases r1 with
    | nil => exact Vals.rev r2
    | cons _ _ => exact .nil
theorem pe_calB {X : Cx} {x : Str} {p pos : Pos} {kws : List Keyword} {tk : TA} {k : Nat} {ps ks : List Str} {sp : Sp} (c : CalB X.prog X.w X.K X.mg X.base x k ps ks sp) (hr : Room k X.A) (hkw : PK X kws tk) (hg : Gl X x := by rfl)
    (hall : (backToKw pos (keywordEach kws X.env)).all (·.1.isSome) = true := by rfl) (hks : (backToKw pos (keywordEach kws X.env)).filterMap (·.1) = ks := by rfl)
    (hdb : (x == ("__debug__" : Str)) = false := by decide) (hpl : ((backTo pos (starEach [] X.env)).any (·.1) || (backToKw pos (keywordEach kws X.env)).any (·.1.isNone)) = false := by rfl) :
    PE X (.Call (.Name x p) [] kws pos) (tCallK sp TW.back E0 tNil tk) := by
  obtain ⟨f, fd, hm, hk, hb, F⟩ := c.ex
  refine ⟨fun pins s σ H Q I h => ?_⟩
  refine wpAny_Call_Name_kw (ld_glob I hg hm ?_ hdb)
  refine PySem.W.callWith_KW0 (h₀ := X.base) I.ok.mod.kin hk hall (thn (hkw.run pos pins s σ H _ I h) fun ws s2 ⟨zs, H2, I2, rz, q2⟩ => ⟨I2.kIn, ?_⟩) hpl
  rw [hks]
  exact run_fnk F hr hb pass0 I2 .nil rz q2
end TW
set_option Elab.async false
set_option linter.all false
set_option maxRecDepth 100000
set_option maxHeartbeats 8000000
/-! objects made, dicts of pairs, defs for their callers (these stand in TwOneD, TwOneR, TwLaw for k06, too) -/
namespace TW
open PySem PySem.Spec PyProof.Rows L2 RZ StX
open Evl (Ex)
theorem ite_val {b : Bool} {A : Int → Prop} {x y : Int} (h : ∀ z, z = x ∨ z = y → A z) : if b = true then A x else A y := by
  cases b
  · exact iteF (h y (.inr rfl))
  · exact iteT (h x (.inl rfl))
theorem paired_up {α β : Type} {R R' : α → β → Prop} (h : ∀ x y, R x y → R' x y) : ∀ {xs : List α} {ys : List β}, Paired R xs ys → Paired R' xs ys
  | _, _, .nil => .nil
  | _, _, .cons r t => .cons (h _ _ r) (paired_up h t)
theorem valV_at : ∀ {kvs : List (Key × V)} {i : Nat} {k : Key} {v : V}, (kvs.map (·.1)).Nodup → kvs[i]? = some (k, v) → valV kvs k = some v
  | [], _, _, _, _, h => by simp at h
  | q :: r, 0, k, v, _, h => by
    simp at h
    subst h
    exact valV_pos rfl
  | q :: r, i + 1, k, v, nd, h => by
    have nd' := List.nodup_cons.mp nd
    have h' : r[i]? = some (k, v) := by simpa using h
    rw [valV_neg (fun e => nd'.1 (by show q.1 ∈ _; rw [e]; exact List.mem_map_of_mem (f := fun z : Key × V => z.1) (List.mem_of_getElem? h')))]
    exact valV_at nd'.2 h'
theorem make_gr {F H F4 H4 : Hp} {x dx C : Addr} (fs : Sees F H) (hx : H x = none) (hdx : H dx = none) (ne : dx ≠ x) (g : Gr [x] F (upd (upd H dx (.own x)) x (.ins C dx [])) F4 H4) (fx : F4 x = none) : Gr [] F H (upd F4 x ((H4 x).getD (.own 0))) H4 := by
  have n1 : upd H dx (.own x) x = none := by rw [upd_ne (Ne.symm ne)]; exact hx
  have g3 := ((Gr.refl (B := []) fs).newM (o := .own x) hdx).newM (o := .ins C dx []) n1
  have hx4 : H4 x ≠ none := fun z => by
    have z2 := g.dm x z
    rw [upd_same] at z2
    cases z2
  obtain ⟨o, ho⟩ := Option.ne_none_iff_exists'.mp hx4
  rw [ho]
  exact (g3.trans g (fun b hb => .inr (by rw [List.mem_singleton.mp hb]; exact hx))).done hx fx ho
theorem make_sees {F H : Hp} {x dx C : Addr} (fs : Sees F H) (hx : H x = none) (hdx : H dx = none) (ne : dx ≠ x) : Sees F (upd (upd H dx (.own x)) x (.ins C dx [])) :=
  (((Gr.refl (B := []) fs).newM (o := .own x) hdx).newM (o := .ins C dx []) (by rw [upd_ne (Ne.symm ne)]; exact hx)).fh
theorem sortableI (l : List Int) : PySem.W.Sortable (l.map PyData.int) := PySem.W.Sortable.others fun b => ⟨by simp, fun xs => by simp⟩
theorem mergeK_app : ∀ {more acc : List (Key × V)}, ((acc ++ more).map (·.1)).Nodup → mergeK acc more = acc ++ more
  | [], acc, _ => by simp [mergeK]
  | kv :: r, acc, h => by
    have hn : (acc.any fun q => decide (q.1 = kv.1)) = false := by
      rw [Bool.eq_false_iff]
      intro z
      obtain ⟨q, q1, q2⟩ := List.any_eq_true.mp z
      rw [List.map_append] at h
      exact (List.nodup_append.mp h).2.2 q.1 (List.mem_map_of_mem q1) kv.1 (by simp) (of_decide_eq_true q2)
    have e : putK acc kv.1 kv.2 = acc ++ [kv] := by
      unfold putK
      rw [hn]
      rfl
    show mergeK (putK acc kv.1 kv.2) r = _
    rw [e, mergeK_app (by simpa using h)]
    simp
theorem mergeK_nil {more : List (Key × V)} (h : (more.map (·.1)).Nodup) : mergeK [] more = more := by
  have z := mergeK_app (more := more) (acc := []) (by simpa using h)
  simpa using z
section
variable {P : Program} {w : World} {K : PySem.W.Frag} {mg : Str → Option Value} {base : Heap}

theorem ne_nil {l : List Str} (hl : ∀ z ∈ l, PyData.strOk z = true) {x : V} {H : Hp} {Q : VK} {p : Addr} (hx : Dp K H x (.list (l.map .str))) (hp : H p = some (.lst [])) (q : Q (.bl (!decide (l = []))) H) : rNeDD K x (.ref p) H Q :=
  .mk ⟨_, .list [], hx, .lst (.inl (.inl hp)) .nil, flat1_shaped (ds := l.map .str) fun e he => by
    obtain ⟨z, hz, rfl⟩ := List.mem_map.mp he
    exact hl z hz, rfl, by
    rw [eqv_nil, show decide (l.map PyData.str = []) = decide (l = []) by simp]
    exact q⟩
theorem cal_of {x : Str} {st : Stmt} {f : Addr} {fd : FuncData} {k : Nat} {ps : List Str} {sp : Sp} (F : Fun K x x st f fd) (hm : mg x = some (.ref f)) (b : Binds K fd ps []) (o : FnOk P w K mg base CX0 k f fd ps sp) : Cal P w K mg base x k ps [] sp :=
  ⟨f, fd, [], hm, F.kp, .nil, b, o⟩
theorem calB_of {x : Str} {st : Stmt} {f : Addr} {fd : FuncData} {k : Nat} {ps ks : List Str} {sp : Sp} (F : Fun K x x st f fd) (hm : mg x = some (.ref f)) (b : KBinds K fd ps ks back back) (o : FnOk P w K mg base CX0 k f fd ps sp) : CalB P w K mg base x k ps ks sp :=
  ⟨f, fd, hm, F.kp, b, o⟩
theorem fund_mk {x qual : Str} {st : Stmt} {f T : Addr} {oc tc : Value} {od an td : Option Addr} {osl tsl : Array (Option Value)} {kV doc pm cdv ct u : Value} {v : V} {n : Nat} (l : K.lookup f = some ⟨oc, od, .func (PySem.W.fnOf x qual (defArgs st) (defBody st) (defScope st) (.ref T) kV doc pm an cdv ct), osl⟩)
    (c : PySem.W.codeIn K cdv qual = true) (k : PySem.W.keepIn K (.ref f) = true) (lT : K.lookup T = some ⟨tc, td, .seq #[u] n, tsl⟩) (hv : L2.RelV v u) : FunD K x qual (defArgs st) (defBody st) (defScope st) [v] [] f (PySem.W.fnOf x qual (defArgs st) (defBody st) (defScope st) (.ref T) kV doc pm an cdv ct) :=
  ⟨⟨oc, od, .ref T, kV, doc, pm, an, cdv, ct, osl, rfl, l, c, .inr ⟨by simp, T, _, [u], n, rfl, lT, rfl, .cons hv .nil⟩, .inl rfl⟩, k⟩
theorem calD_of {x : Str} {st : Stmt} {f : Addr} {fd : FuncData} {k : Nat} {ps : List Str} {sp : Sp} {v : V} {dvs : List V} (F : FunD K x x (defArgs st) (defBody st) (defScope st) [v] [] f fd) (hm : mg x = some (.ref f)) (b : ∃ ds, Vals dvs ds ∧ Binds K fd ps ds) (o : FnOk P w K mg base CX0 k f fd ps sp) : Cal P w K mg base x k ps dvs sp := by
  obtain ⟨ds, h1, h2⟩ := b
  exact ⟨f, fd, ds, hm, F.kp, h1, h2, o⟩
theorem cons_of {h : Heap} {x : Str} {v : V} {u : Value} (X : K.In h) (G : h.Ns mainGlobals mg) (a : PySem.W.nsIn K mainGlobals x = some (some u)) (r : L2.RelV v u) : ∃ u, mg x = some u ∧ L2.RelV v u := ⟨u, PySem.W.mg_of X G a, r⟩
end
end TW
set_option Elab.async false
set_option linter.all false
set_option maxRecDepth 100000
set_option maxHeartbeats 8000000
/-! walls behind blends -/
namespace TW
open PySem PySem.Spec PyProof.Rows L2 RZ StX
open Evl (Ex)
def namesV (b : Bl) : List (Key × V) := (namesS b).map fun x => (Sum.inr x.1, V.str x.2)
theorem namesV_get (b : Bl) (m : Str) : valV (namesV b) (Sum.inr m) = (nameOf b m).map V.str := by
  unfold namesV nameOf
  induction namesS b with
  | nil => rfl
  | cons x l ih =>
    rw [List.map_cons, aGet_cons]
    by_cases e : x.1 = m
    · rw [if_pos e, valV_pos (by rw [e])]
      rfl
    · rw [if_neg e, valV_neg (fun z => e (Sum.inr.inj z)), ih]
theorem namesV_getD (b : Bl) (m : Str) : (valV (namesV b) (Sum.inr m)).getD (.str "") = .str (nameD b m) := by
  rw [namesV_get]
  unfold nameD
  cases nameOf b m <;> rfl
theorem namesV_keys (b : Bl) : (namesV b).map (·.1) = b.flatten.map Sum.inr := by
  unfold namesV
  rw [List.map_map, ← names_keys, List.map_map]
  rfl
theorem namesV_snoc (b : Bl) (g : List Str) : namesV (b ++ [g]) = namesV b ++ g.map fun m => (Sum.inr m, V.str (g.headD "")) := by
  unfold namesV namesS
  rw [List.flatMap_append, List.map_append, List.flatMap_cons, List.flatMap_nil, List.append_nil, List.map_map]
  rfl
/-- {mark: group[0] for group in groups for mark in group} -/
theorem names2 {K : PySem.W.Frag} {wi : TI} {a c : Nat} {own : List Nat} {σ : L2.St} {F H : Hp} {Q : VK} {v : V} {b : Bl} (hv : Dp K F v (encB b)) (nd : b.flatten.Nodup) (s : Sees F H)
    (hwi : ∀ R, rSeq K v H R → wi σ H R) (w1 : ∀ y, wipe ((wipe σ own).set a (some y)) own = wipe σ own) (w2 : ∀ y x, wipe ((wipe ((wipe σ own).set a (some y)) [c]).set c (some x)) [c] = wipe ((wipe σ own).set a (some y)) [c]) (va : ∀ y, ((wipe σ own).set a (some y))[a]? = some (some y))
    (vc : ∀ y x, ((wipe ((wipe σ own).set a (some y)) [c]).set c (some x))[c]? = some (some x)) (va2 : ∀ y x, ((wipe ((wipe σ own).set a (some y)) [c]).set c (some x))[a]? = some (some y)) (few : b.flatten.length ≤ 1000)
    (q : ∀ p F' H', Gr [] F H F' H' → F' p = some (.dK (namesV b)) → H' p = some (.dK (namesV b)) → Q (.ref p) H') : tDc2 wi (gName a) tYes (iSeq K (tVar a)) (gName c) tYes (tVar c) (tOp (rIxD K) (tVar a) (tC (V.int 0))) own [c] σ H Q := by
  have lz : 100000 < sizeLine := by rw [sizeLine_eq]; decide
  refine hwi _ (seq_walk (show Dp K F v (.tuple (b.map encR)) from hv) (.inr rfl) s fun J xs G k1 hG hxs hlen D hD => ?_)
  rw [hlen, List.length_map] at k1
  refine loop_it k1 (fun i H' => ∃ F', Gr [] F H F' H' ∧ F' D = none ∧ H' D = some (.dK (namesV (b.take i)))) ⟨F, (Gr.refl s).newM hD, s.dm hD, upd_same⟩ (fun i H' _ ⟨F', g, _⟩ => hG H' (sees_gr g)) (fun i y H' H'' hi ⟨F', g, fD, hDc⟩ yy => ?_) fun H' ⟨F', g, fD, hDc⟩ => ?_
  · obtain ⟨rfl, hyi⟩ := yy
    obtain ⟨dd, e1, e2⟩ := hxs.get hyi
    rw [List.getElem?_map] at e1
    obtain ⟨k, hk, rfl⟩ := Option.map_eq_some_iff.mp e1
    have tk : b.take (i + 1) = b.take i ++ [k] := by rw [List.take_add_one, hk]; rfl
    have pre : (b.take i).flatten ++ k = (b.take (i + 1)).flatten := by rw [tk, List.flatten_append, List.flatten_cons, List.flatten_nil, List.append_nil]
    have sub : ((b.take i).flatten ++ k).Sublist b.flatten := by
      rw [pre]
      conv => rhs; rw [← List.take_append_drop (i + 1) b, List.flatten_append]
      exact List.sublist_append_left _ _
    refine ⟨w1 y, yesI ⟨_, va y, seq_walk (show Dp K F' y (.tuple (k.map .str)) from e2.ex g.ff) (.inr rfl) g.fh fun J2 xs2 G2 k2 hG2 hxs2 hlen2 => ?_⟩⟩
    rw [hlen2, List.length_map] at k2
    refine loop_it k2 (fun j H' => Gr [D] F' H'' F' H' ∧ H' D = some (.dK (namesV (b.take i) ++ (k.take j).map fun m => (Sum.inr m, V.str (k.headD ""))))) ⟨Gr.refl g.fh, by simpa using hDc⟩ (fun j H' _ ⟨g', _⟩ => hG2 H' fun a o e => g'.fh a o (g'.ff a o e)) (fun j x H3 H4 hj ⟨g', hDc'⟩ yy => ?_) fun H3 ⟨g', hDc'⟩ => ?_
    · obtain ⟨rfl, hxj⟩ := yy
      obtain ⟨dd, e3, e4⟩ := hxs2.get hxj
      rw [List.getElem?_map] at e3
      obtain ⟨m, hm, rfl⟩ := Option.map_eq_some_iff.mp e3
      rw [dp_str] at e4
      subst e4
      have tm : k.take (j + 1) = k.take j ++ [m] := by rw [List.take_add_one, hm]; rfl
      have keys : (namesV (b.take i) ++ (k.take j).map fun m => ((Sum.inr m, V.str (k.headD "")) : Key × V)).map (fun x => x.1) = (((b.take i).flatten ++ k.take j).map Sum.inr : List Key) := by
        rw [List.map_append, namesV_keys, List.map_map, List.map_append]
        rfl
      have new : m ∉ (b.take i).flatten ++ k.take j := by
        have z : ((b.take i).flatten ++ k.take (j + 1)).Nodup := nd.sublist ((List.Sublist.append_left (List.take_sublist _ _) _).trans sub)
        rw [tm, ← List.append_assoc] at z
        exact fun h => (List.nodup_append.mp z).2.2 m h m (by simp) rfl
      have vn : valV (namesV (b.take i) ++ (k.take j).map fun m => (Sum.inr m, V.str (k.headD ""))) (Sum.inr m) = none := by
        cases e : valV (namesV (b.take i) ++ (k.take j).map fun m => (Sum.inr m, V.str (k.headD ""))) (Sum.inr m) with
        | none => rfl
        | some u =>
          have z := valV_in e
          rw [keys, List.mem_map] at z
          obtain ⟨y, y1, y2⟩ := z
          cases y2
          exact absurd y1 new
      have hd : (k.map PyData.str)[0]? = some (.str (k.headD "")) := by
        cases k with
        | nil => simp at hm
        | cons z k => rfl
      have gg : Gr [] F H F' H4 := g.trans g' fun b hb => .inr (by rw [List.mem_singleton.mp hb]; exact hD)
      refine ⟨w2 y _, yesI ⟨_, vc y _, _, va2 y _, ix_dp (show Dp K F' y (.tuple (k.map .str)) from e2.ex g.ff) (.inr rfl) gg.fh (e := .str (k.headD "")) (atI_nat (j := 0) hd) fun r hr => ?_⟩⟩
      rw [dp_str] at hr
      subst hr
      refine ⟨_, Sum.inr m, rfl, hDc', ?_, g'.mut fD (.inl (List.mem_singleton.mpr rfl)), ?_⟩
      · have z := congrArg List.length keys
        rw [List.length_map, List.length_map] at z
        have z2 := ((List.Sublist.append_left (List.take_sublist j k) ((b.take i).flatten)).trans sub).length_le
        omega
      · rw [upd_same, putK_new _ vn, tm, List.map_append, List.append_assoc]
        rfl
    · rw [List.take_length] at hDc'
      refine ⟨F', g.trans g' (fun b hb => .inr (by rw [List.mem_singleton.mp hb]; exact hD)), fD, ?_⟩
      rw [tk, namesV_snoc]
      exact hDc'
  · rw [List.take_length] at hDc
    exact q D _ H' (g.done hD fD hDc) upd_same hDc
/-- each once -/
def onceS : List Str → List Str
  | [] => []
  | a :: l => if a ∈ onceS l then onceS l else a :: onceS l
theorem onceS_mem : ∀ (l : List Str) (z : Str), z ∈ onceS l ↔ z ∈ l
  | [], z => Iff.rfl
  | a :: l, z => by
    have ih := onceS_mem l
    unfold onceS
    by_cases h : a ∈ onceS l
    · rw [if_pos h, ih, List.mem_cons]
      exact ⟨.inr, fun q => q.elim (fun e => e ▸ (ih a).mp h) id⟩
    · rw [if_neg h, List.mem_cons, ih, List.mem_cons]
theorem onceS_nodup : ∀ l : List Str, (onceS l).Nodup
  | [] => List.nodup_nil
  | a :: l => by
    unfold onceS
    by_cases h : a ∈ onceS l
    · rw [if_pos h]; exact onceS_nodup l
    · rw [if_neg h]; exact List.nodup_cons.mpr ⟨h, onceS_nodup l⟩
/-- the names of some marks, ascending, each once -/
def imgS (b : Bl) (l : List Str) : List Str := (onceS (l.map (nameD b))).mergeSort sle
theorem imgS_mem (b : Bl) (l : List Str) (z : Str) : z ∈ imgS b l ↔ z ∈ l.map (nameD b) := by
  unfold imgS
  rw [(List.mergeSort_perm _ _).mem_iff, onceS_mem]
theorem imgS_pw (b : Bl) (l : List Str) : (imgS b l).Pairwise slt :=
  slt_sorted (List.pairwise_mergeSort (le := sle) sle_trans sle_total _) ((List.mergeSort_perm _ _).nodup_iff.mpr (onceS_nodup _))
/-- what a wall must say to be made anew -/
structure WaOk (s : WaD) : Prop where
  ne : s.ks ≠ []
  few : s.ks.length ≤ 100
  snd : ∀ k ∈ s.ks, k.length ≤ 1000 ∧ isSound (.str k) = true
  one : ∀ k ∈ s.ks, 1 ≤ (s.m k).length
  six : ∀ k ∈ s.ks, (s.m k).length ≤ 6
  ms : ∀ k ∈ s.ks, ∀ z ∈ s.m k, z.length ≤ 1000 ∧ isHeard (.str z) = true
/-- s' is s behind the blend b -/
structure Behind (b : Bl) (s s' : WaD) : Prop where
  ks : s'.ks.Perm s.ks
  pw : ∀ k ∈ s.ks, (s'.m k).Pairwise slt
  mem : ∀ k ∈ s.ks, ∀ z, z ∈ s'.m k ↔ ∃ m ∈ s.m k, z = nameD b m
def spBlendOf (K : PySem.W.Frag) (C : Addr) : Sp := fun vs H Q _ => ∃ (F : Hp) (x : Addr) (s : WaD) (v : V) (b : Bl), vs = [.ref x, v] ∧ Sees F H ∧ WaAt K C F x s ∧ WaFree C F H x ∧ WaOk s ∧ Dp K F v (encB b) ∧ BlOk s.all b ∧
  ∀ y s' F' H', Behind b s s' → Gr [] F H F' H' → WaAt K C F' y s' → WaFree C F' H' y → Q (.ref y) H'
section
variable {P : Program} {w : World} {K : PySem.W.Frag} {mg : Str → Option Value} {base : Heap}
theorem ok_blend_of {f C : Addr} {fd : FuncData} (F : Fun K "blend_of" "blend_of" s_blend_of f fd) (T : Txt mg) (TW_ : WaC K C) (M_Wall : Mkr P w K mg base "Wall" C 4 ["self", "marks"] (spWaI K C)) : FnOk P w K mg base CX0 6 f fd ["wall", "groups"] (spBlendOf K C) := by
  refine F.ok sc_blend_of (fun vs H Q E h => ?_) (fun cdv A outer s H vs Q E hr h => ?_)
  · obtain ⟨F0, x, s, v, b, rfl, _⟩ := h
    rfl
  · obtain ⟨F0, x, s, v, b, rfl, fs, ⟨⟨dx, D, vs, va, kvs, hx, hD, tl, hva⟩, ok⟩, free, wok, hb, okb, q⟩ := h
    have hu := hu_of hr
    have hu8 := hu8_of hr
    refine ⟨_, (pss_cons (zs (i := 2) sc_blend_of.nd (pe_dc2 (own := [("group", 3), ("mark", 4)]) (vs1 := [4]) rfl sc_blend_of.nd (zseq K (pv 1)) (blkOk_by (N := sc_blend_ofN) (sc := defScope s_blend_of) (by decide +kernel)) (by decide) ⟨(fun _ _ _ _ _ => (zg (i := 3) sc_blend_of.nd)), (fun _ _ _ _ _ => pts_nil), (fun _ _ _ _ _ => (zseq K (pv 3))), (fun _ _ _ _ _ => (zg (i := 4) sc_blend_of.nd)), (fun _ _ _ _ _ => pts_nil), (fun _ _ _ _ _ => (pv 4)), (fun _ _ _ _ _ => (pe_ix (ix_LT K) (pv 3) pe_int (fun _ _ => rfl)))⟩))
      (pss_cons (zs (i := 5) sc_blend_of.nd pe_dnewK)
      (pss_cons (ps_lock (ps_for PassesOwn.never rfl (pi_keys (zfld K (pv 0))) (zg (i := 6) sc_blend_of.nd)
        (pss_one (ps_dput hu (pv 5) (pv 6) (pe_callB (cr_sortedKS w hu8) (by rfl) T.sorted bt_sorted (pa_cons (pe_callTy (cr_setK K w) (by rfl) T.set bt_set (pa_cons (pe_lc (own := [("mark", 4)]) rfl sc_blend_of.nd (zseq K (pe_dget hu (zfld K (pv 0)) (pv 6) (fun _ _ => rfl))) (blkOk_by (N := sc_blend_ofN) (sc := defScope s_blend_of) (by decide +kernel)) (fun _ _ _ _ _ => (zg (i := 4) sc_blend_of.nd)) (fun _ _ _ _ _ => pts_nil) (fun _ _ _ _ _ => (pe_dget2 hu (pv 2) (pv 4) pe_str (m2_of rfl)))) pa_nil)) pa_nil)) rfl))))
      (pss_one (ps_ret (pe_mk M_Wall (hr.mono (by decide)) (pa_cons (pv 5) pa_nil))))))), ?_⟩
    have lz : 100000 < sizeLine := by rw [sizeLine_eq]; decide
    have lk := tells_len tl
    have lfl : b.flatten.length ≤ 1000 := by
      have z := okb.flat
      have z2 : s.all.length ≤ s.ks.length * 6 := by
        refine Nat.le_trans (nodup_le ok.an (m := s.ks.flatMap s.m) fun z hz => ?_) (len_fm s.m 6 s.ks wok.six)
        obtain ⟨_, k, hk, hm⟩ := (ok.al z).mp hz
        exact List.mem_flatMap.mpr ⟨k, hk, hm⟩
      have := wok.few
      omega
    unfold tSeq tAsg
    dsimp only
    refine names2 (K := K) (wi := iSeq K (tVar 1)) (a := 3) (c := 4) (own := [3, 4]) (σ := [some (.ref x), some v, none, none, none, none, none]) hb okb.nd fs (fun R h => ⟨_, rfl, h⟩) (fun _ => rfl) (fun _ _ => rfl) (fun _ => rfl) (fun _ _ => rfl) (fun _ _ => rfl) lfl fun p F1 H1 g1 fp hp => ?_
    refine fun G hG => ?_
    have hx1 := g1.ff _ _ hx
    have hD1 := g1.ff _ _ hD
    have hDh := g1.at (free _ _ _ _ _ hx hD)
    have tl1 := tl.ex g1.ff
    have g2 := g1.newM (o := .dK []) hG
    have fG := g1.fh.dm hG
    have nGD : G ≠ D := fun e => by rw [e, hDh] at hG; cases hG
    have hD2 : upd H1 G (.dK []) D = some (.dK kvs) := by rw [upd_ne (Ne.symm nGD)]; exact hDh
    have hG2 : upd H1 G (.dK []) G = some (.dK []) := upd_same
    generalize upd H1 G (.dK []) = H2 at g2 hD2 hG2 ⊢
    refine ⟨D, _, hD2, True.intro, fun od => ?_⟩
    have xD : x ≠ D := fun e => by rw [e, hD] at hx; cases hx
    have s3 : Sees F1 (upd H2 D (.frz od (.dK kvs))) := sees_lock g2.fh hD1
    have na : upd H2 D (.frz od (.dK kvs)) D = some (.frz od (.dK kvs)) := upd_same
    have hG3 : upd H2 D (.frz od (.dK kvs)) G = some (.dK []) := by rw [upd_ne nGD]; exact hG2
    have hx3 : upd H2 D (.frz od (.dK kvs)) x = some _ := (upd_ne xD).trans (sees_i g2.fh hx1)
    refine ⟨_, rfl, x, C, dx, _, _, rfl, hx3, TW_.cl, TW_.nM, rfl, ?_⟩
    refine ⟨D, od, rfl, .inl ⟨kvs, na, ?_⟩⟩
    refine for_it walk_keys (fun i σ' H' => ∃ (o6 : Option V) (F' : Hp) (acc : List (Key × V)), σ' = [some (.ref x), some v, some (.ref p), none, none, some (.ref G), o6] ∧ Gr [G] F1 (upd H2 D (.frz od (.dK kvs))) F' H' ∧ F' G = none ∧ H' G = some (.dK acc) ∧ Tells K F' acc (s.ks.take i) (fun k => imgS b (s.m k)) .list)
      ⟨none, F1, [], rfl, Gr.refl s3, fG, hG3, rfl, by simp⟩ (fun i σ' H' _ ⟨_, _, _, _, g, _⟩ => g.hh D _ (by simpa using Ne.symm nGD) na) ?_ ?_
    · rintro i y σ' H4 H5 hi ⟨o6, F4, acc, rfl, g, fG4, hG4, pv⟩ ⟨rfl, k', v', e1, rfl⟩
      have hi' : i < s.ks.length := by rw [← lk]; exact hi
      have hkk : s.ks[i]? = some s.ks[i] := List.getElem?_eq_getElem hi'
      generalize s.ks[i] = k at hkk
      obtain rfl := tells_at tl1 e1 hkk
      have km := List.mem_of_getElem? hkk
      obtain ⟨u, u1, u2⟩ := tl1.va k km
      have six := wok.six k km
      have hD4 := g.hh D _ (by simpa using Ne.symm nGD) na
      dsimp only [List.set_cons_zero, List.set_cons_succ]
      have hx4 := sees_i g.fh (g.ff _ _ hx1)
      refine ⟨_, rfl, x, C, dx, _, _, rfl, hx4, TW_.cl, TW_.nM, rfl, _, rfl, D, u, rfl, .inl ⟨kvs, Sum.inr k, .inr ⟨od, hD4⟩, rfl, u1.symm⟩, ?_⟩
      refine seq_walk (u2.ex g.ff) (.inr rfl) g.fh fun J xs Gx w1 hGx hxs hlen L hL => ?_
      refine lc_seqM (bs := s.m k) (enc := .str) (f := fun m => .str (nameD b m)) w1 hxs g.fh hGx (by omega) (fun m z F6 H6 hm g6 hz => turn1 rfl fun Yes h => ?_) hL fun acc2 F6 H6 g6 fL hLc hacc2 => ?_
      · rw [dp_str] at hz
        subst hz
        have rp : Rd H6 p (.dK (namesV b)) := sees_d g6.fh (g6.ff _ _ (g.ff _ _ fp))
        refine ⟨_, rfl, p, rfl, .inl ⟨_, rp⟩, _, rfl, _, .inl ⟨namesV b, Sum.inr m, rp, rfl, rfl⟩, h _ _ _ (Gr.refl g6.fh) ?_⟩
        rw [namesV_getD]
        exact .str _
      rw [show (s.m k).map (fun m => PyData.str (nameD b m)) = ((s.m k).map (nameD b)).map PyData.str by rw [List.map_map]; rfl, dps_str] at hacc2
      subst hacc2
      generalize hl : (s.m k).map (nameD b) = l at hLc
      have ll : l.length ≤ 6 := by rw [← hl, List.length_map]; exact six
      refine ⟨L, l.map Sum.inr, rfl, .inl (by rw [keys_str]; exact .inl (.inl hLc)), by rw [List.length_map]; omega, fun q1 n hq1 hn hex => ⟨q1, l, n, rfl, upd_same, fun ns p4 srt nd mem len hp4 => ?_⟩⟩
      have ens : ns = imgS b (s.m k) := slt_eq (slt_sorted srt nd) (imgS_pw b _) fun z => by rw [mem z, imgS_mem, hl]
      have g7 := (g6.newM (o := SKO w q1 (l.map Sum.inr) n) hq1).new (o := .lst (ns.map V.str)) hp4
      have d7 : Dp K (upd F6 p4 (.lst (ns.map V.str))) (.ref p4) (.list ((imgS b (s.m k)).map .str)) := .lst (.inl (.inl upd_same)) (by rw [ens]; exact dps_str.mpr rfl)
      have hG7 := g7.at hG4
      have fG7 := g7.none' fG4 (by rw [hG4]; exact fun z => nomatch z)
      generalize upd (upd H6 q1 (SKO w q1 (l.map Sum.inr) n)) p4 (.lst (ns.map V.str)) = H7 at g7 hG7 ⊢
      generalize upd F6 p4 (.lst (ns.map V.str)) = F7 at g7 fG7 d7
      have la := tells_len pv
      rw [List.length_take] at la
      have fw := wok.few
      refine ⟨_, rfl, _, rfl, G, _, rfl, DPut.k (k := Sum.inr k) hG7 (by omega), ?_⟩
      refine ⟨_, F7, putK acc (Sum.inr k) (.ref p4), rfl, (g.trans g7).mut fG7 (.inl (List.mem_singleton.mpr rfl)), fG7, upd_same, ?_⟩
      exact tells_put (m := fun k => imgS b (s.m k)) (pv.ex g7.ff) ok.nd hkk d7
    · rintro σ' H4 ⟨o6, F4, acc, rfl, g, fG4, hG4, pv⟩
      rw [lk, List.take_length] at pv
      have hD4 := g.hh D _ (by simpa using Ne.symm nGD) na
      refine ⟨hD4, ?_⟩
      have gU := Gr.unlockD (.k kvs) hD1 hD2 g
      have g5 := g2.trans gU fun b hb => .inr (by rw [List.mem_singleton.mp hb]; exact g1.dm _ hG)
      have hG5 : upd H4 D (.dK kvs) G = some (.dK acc) := by rw [upd_ne nGD]; exact hG4
      have g6 := g5.done (g1.dm _ hG) fG4 hG5
      have fa : upd F4 G (.dK acc) G = some (.dK acc) := upd_same
      have pv6 := pv.ex (Ex.new (o := .dK acc) fG4)
      generalize upd F4 G (.dK acc) = F6 at g6 fa pv6
      generalize upd H4 D (.dK kvs) = H6 at g6 hG5 ⊢
      refine ⟨_, rfl, fun y dy hy hdy ney => ?_⟩
      have same : ∀ k ∈ s.ks, ∀ z, z ∈ imgS b (s.m k) → z = "" ∨ z ∈ s.all := fun k hk z hz => by
        obtain ⟨m, hm, rfl⟩ := List.mem_map.mp ((imgS_mem b _ z).mp hz)
        exact nameD_in okb m
      refine ⟨F6, y, dy, G, acc, s.ks, fun k => imgS b (s.m k), .list, rfl, upd_same, g6.fh.dm hy, make_sees g6.fh hy hdy ney, fa, by rw [upd_ne (ne_of_none hG5 hy), upd_ne (ne_of_none hG5 hdy)]; exact hG5, pv6, fun l => .inl rfl, wok.ne, wok.few, ok.nd, wok.snd, fun k hk => ⟨?_, ?_, fun z hz => ?_, slt_nodup (imgS_pw b _)⟩, fun s' F7 H7 wk wm g7 fy7 hwa hfr => ⟨rfl, ?_⟩⟩
      · obtain ⟨m, hm⟩ := List.exists_mem_of_length_pos (wok.one k hk)
        exact List.length_pos_of_mem ((imgS_mem b _ (nameD b m)).mpr (List.mem_map_of_mem hm))
      · have z := nodup_le (slt_nodup (imgS_pw b (s.m k))) (m := (s.m k).map (nameD b)) fun z hz => (imgS_mem b _ z).mp hz
        rw [List.length_map] at z
        have := wok.six k hk
        show (imgS b (s.m k)).length ≤ 6
        omega
      · rcases same k hk z hz with rfl | hz
        · decide +kernel
        · obtain ⟨_, k2, hk2, hm2⟩ := (ok.al z).mp hz
          exact wok.ms k2 hk2 z hm2
      · have g8 := make_gr g6.fh hy hdy ney g7 fy7
        refine q y s' _ _ ⟨wk, fun k hk => ?_, fun k hk z => ?_⟩ (g6.trans g8) hwa hfr
        · have pm := wm k hk
          obtain ⟨⟨_, _, _, _, _, _, _, _⟩, ok'⟩ := hwa
          exact slt_sorted (ok'.ms k (wk.mem_iff.mpr hk)) (pm.nodup_iff.mpr (slt_nodup (imgS_pw b _)))
        · rw [(wm k hk).mem_iff, imgS_mem, List.mem_map]
          exact ⟨fun ⟨m, h1, h2⟩ => ⟨m, h1, h2.symm⟩, fun ⟨m, h1, h2⟩ => ⟨m, h1, h2.symm⟩⟩
end
end TW
set_option Elab.async false
set_option linter.all false
set_option maxRecDepth 100000
set_option maxHeartbeats 8000000
/-! what is asked from outside -/
namespace TW
open PySem PySem.Spec PyProof.Rows L2 RZ StX
open Evl (Ex)
/-- v tells the groups of b, as lists or as tuples -/
structure TellB (K : PySem.W.Frag) (F : Hp) (v : V) (b : Bl) : Prop where
  ex : ∃ (d : PyData) (e : List PyData → PyData), Dp K F v d ∧ isSeq d (b.map fun g => e (g.map .str)) ∧ ∀ l, isSeq (e l) l
theorem TellB.up {K : PySem.W.Frag} {F F' : Hp} {v : V} {b : Bl} (h : TellB K F v b) (x : Ex F F') : TellB K F' v b := by
  obtain ⟨d, e, h1, h2, h3⟩ := h.ex
  exact ⟨d, e, h1.ex x, h2, h3⟩
theorem TellB.mk' {K : PySem.W.Frag} {F : Hp} {v : V} {b : Bl} (h : Dp K F v (encB b)) : TellB K F v b := ⟨_, .tuple, h, .inr rfl, fun l => .inr rfl⟩
def spBlended (K : PySem.W.Frag) (C : Addr) : Sp := fun vs H Q _ => ∃ (F : Hp) (x : Addr) (s : WaD) (v : V) (b : Bl), vs = [.ref x, v] ∧ Sees F H ∧ WaAt K C F x s ∧ WaFree C F H x ∧ WaOk s ∧ TellB K F v b ∧ BlOk s.all b ∧ s.all.length ≤ 100 ∧
  ∀ y s' F' H', Behind b s s' → Gr [] F H F' H' → WaAt K C F' y s' → WaFree C F' H' y → Q (.ref y) H'
def spThicker (K : PySem.W.Frag) (C : Addr) : Sp := fun vs H Q _ => ∃ (F : Hp) (x : Addr) (s : WaD) (v u : V) (b c : Bl), vs = [.ref x, v, u] ∧ Sees F H ∧ WaAt K C F x s ∧ TellB K F v b ∧ TellB K F u c ∧ BlOk s.all b ∧ BlOk s.all c ∧ s.all.length ≤ 100 ∧ ∀ F' H', Gr [] F H F' H' → Q (.bl (thick b c)) H'
section
variable {P : Program} {w : World} {K : PySem.W.Frag} {mg : Str → Option Value} {base : Heap}
theorem ok_blended {f C : Addr} {fd : FuncData} (F : Fun K "blended" "blended" s_blended f fd) (T : Txt mg) (C_need_alone : Cal P w K mg base "need_alone" 1 ["value"] [] (spAlone K C)) (C_need_groups : Cal P w K mg base "need_groups" 3 ["wall", "value"] [] (spGroups K C))
    (C_blend_of : Cal P w K mg base "blend_of" 6 ["wall", "groups"] [] (spBlendOf K C)) : FnOk P w K mg base CX0 7 f fd ["wall", "groups"] (spBlended K C) := by
  refine F.ok sc_blended (fun vs H Q E h => ?_) (fun cdv A outer s H vs Q E hr h => ?_)
  · obtain ⟨F0, x, s, v, b, rfl, _⟩ := h
    rfl
  · obtain ⟨F0, x, s, v, b, rfl, fs, wa, free, wok, ⟨d, e, hd, hq, he⟩, okb, lm, q⟩ := h
    refine ⟨_, (pss_cons (ps_expr (pe_cal C_need_alone (hr.mono (by decide)) (pa_cons (pv 0) pa_nil)))
      (pss_one (ps_ret (pe_cal C_blend_of (hr.mono (by decide)) (pa_cons (pv 0) (pa_cons (pe_cal C_need_groups (hr.mono (by decide)) (pa_cons (pv 0) (pa_cons (pv 1) pa_nil))) pa_nil)))))), ?_⟩
    refine ⟨_, rfl, F0, x, s, rfl, fs, wa, ?_⟩
    refine ⟨_, rfl, _, rfl, _, rfl, F0, x, s, v, d, b, e, rfl, fs, wa, hd, hq, he, okb, lm, fun r F1 H1 g1 hr1 => ?_⟩
    refine ⟨F1, x, s, r, sortB b, rfl, g1.fh, wa.ex' g1.ff, free.gr wa g1 (by simp), wok, hr1, okb.perm (sortB_perm b), fun y s' F2 H2 bh g2 hw hf => q y s' F2 H2 ⟨bh.ks, bh.pw, fun k hk z => ?_⟩ (g1.trans g2) hw hf⟩
    rw [bh.mem k hk z]
    exact ⟨fun ⟨m, h1, h2⟩ => ⟨m, h1, by rw [h2, nameD_perm okb.nd (sortB_perm b)]⟩, fun ⟨m, h1, h2⟩ => ⟨m, h1, by rw [h2, nameD_perm okb.nd (sortB_perm b)]⟩⟩
theorem ok_is_thicker {f C : Addr} {fd : FuncData} (F : Fun K "is_thicker" "is_thicker" s_is_thicker f fd) (T : Txt mg) (C_need_alone : Cal P w K mg base "need_alone" 1 ["value"] [] (spAlone K C)) (C_need_groups : Cal P w K mg base "need_groups" 3 ["wall", "value"] [] (spGroups K C))
    (C_is_as_thick : Cal P w K mg base "is_as_thick" 2 ["one", "other"] [] (spThick K)) : FnOk P w K mg base CX0 4 f fd ["wall", "one", "other"] (spThicker K C) := by
  refine F.ok sc_is_thicker (fun vs H Q E h => ?_) (fun cdv A outer s H vs Q E hr h => ?_)
  · obtain ⟨F0, x, s, v, u, b, c, rfl, _⟩ := h
    rfl
  · obtain ⟨F0, x, s, v, u, b, c, rfl, fs, wa, ⟨d, e, hd, hq, he⟩, ⟨d', e', hd', hq', he'⟩, okb, okc, lm, q⟩ := h
    refine ⟨_, (pss_cons (ps_expr (pe_cal C_need_alone (hr.mono (by decide)) (pa_cons (pv 0) pa_nil)))
      (pss_one (ps_ret (pe_cal C_is_as_thick (hr.mono (by decide)) (pa_cons (pe_cal C_need_groups (hr.mono (by decide)) (pa_cons (pv 0) (pa_cons (pv 1) pa_nil))) (pa_cons (pe_cal C_need_groups (hr.mono (by decide)) (pa_cons (pv 0) (pa_cons (pv 2) pa_nil))) pa_nil)))))), ?_⟩
    refine ⟨_, rfl, F0, x, s, rfl, fs, wa, ?_⟩
    refine ⟨_, rfl, _, rfl, F0, x, s, v, d, b, e, rfl, fs, wa, hd, hq, he, okb, lm, fun r F1 H1 g1 hr1 => ?_⟩
    refine ⟨_, rfl, _, rfl, F1, x, s, u, d', c, e', rfl, g1.fh, wa.ex' g1.ff, hd'.ex g1.ff, hq', he', okc, lm, fun r2 F2 H2 g2 hr2 => ?_⟩
    have ob := okb.perm (sortB_perm b)
    have oc := okc.perm (sortB_perm c)
    refine ⟨F2, r, r2, sortB b, sortB c, rfl, g2.fh, hr1.ex g2.ff, hr2, Nat.le_trans ob.few lm, Nat.le_trans oc.few lm, Nat.le_trans ob.flat lm, Nat.le_trans oc.flat lm, fun F3 H3 g3 => ?_⟩
    rw [thick_perm (sortB_perm b) (sortB_perm c)]
    exact q _ _ ((g1.trans g2).trans g3)
end
end TW
set_option Elab.async false
set_option linter.all false
set_option maxRecDepth 100000
set_option maxHeartbeats 8000000
/-! the law's own blends -/
namespace TW
open PySem PySem.Spec PyProof.Rows L2 RZ StX
open Evl (Ex)
/-- two told tuples put together -/
theorem cat_dp {K : PySem.W.Frag} {F H : Hp} {x y : V} {ds es : List PyData} {Q : VK} (hx : Dp K F x (.tuple ds)) (hy : Dp K F y (.tuple es)) (s : Sees F H) (few : ds.length + es.length ≤ 1000) (q : ∀ r F' H', Gr [] F H F' H' → Dp K F' r (.tuple (ds ++ es)) → Q r H') : rCatA K x y H Q := by
  have lz : 1000 ≤ sizeLine := by rw [sizeLine_eq]; decide
  obtain ⟨a, xs, rfl, h1, h2⟩ := dp_tup hx
  obtain ⟨b, ys, rfl, k1, k2⟩ := dp_tup hy
  have e1 := h2.length
  have e2 := k2.length
  refine ⟨a, b, xs, ys, rfl, rfl, sees_t s h1, sees_t s k1, by omega, fun z => ?_, fun _ z => ?_, fun _ _ p hp => ?_⟩
  · subst z
    cases h2
    exact q _ F H (Gr.refl s) (.tup k1 k2)
  · subst z
    cases k2
    refine q _ F H (Gr.refl s) ?_
    rw [List.append_nil]
    exact .tup h1 h2
  · have g := (Gr.refl (B := []) s).new (o := .tup (xs ++ ys)) hp
    exact q _ _ _ g (.tup (.inl (.inl upd_same)) ((h2.ex g.ff).append (k2.ex g.ff)))
theorem sees_L {F H : Hp} {a : Addr} {xs : List V} (s : Sees F H) (h : F a = some (.lst xs)) : H a = some (.lst xs) := (s a _ h).resolve_right fun ⟨_, _, e, _⟩ => nomatch e
theorem cut_bR (b : Bl) (k : Nat) : cutD (b.map encR) none (some (k : Int)) = (b.take k).map encR := by rw [cutD_to, List.map_take]
theorem cut_bR' (b : Bl) (k : Nat) : cutD (b.map encR) (some ((k : Int) + 1)) none = (b.drop (k + 1)).map encR := by rw [show (k : Int) + 1 = ((k + 1 : Nat) : Int) by omega, cutD_from, List.map_drop]
def spNames (K : PySem.W.Frag) : Sp := fun vs H Q _ => ∃ (F : Hp) (v : V) (b : Bl), vs = [v] ∧ Sees F H ∧ Dp K F v (encB b) ∧ b.flatten.Nodup ∧ b.flatten.length ≤ 1000 ∧ ∀ p F' H', Gr [] F H F' H' → F' p = some (.dK (namesV b)) → H' p = some (.dK (namesV b)) → Q (.ref p) H'
def spLawBlends (K : PySem.W.Frag) : Sp := fun vs H Q _ => ∃ (F : Hp) (v : V) (d : PyData) (ms : List Str), vs = [v] ∧ Sees F H ∧ Dp K F v d ∧ isSeq d (ms.map .str) ∧ ms.length ≤ 5 ∧ ms.Pairwise slt ∧ ∀ r F' H', Gr [] F H F' H' → Dp K F' r (.list ((allB ms).map encB)) → Q r H'
section
variable {P : Program} {w : World} {K : PySem.W.Frag} {mg : Str → Option Value} {base : Heap}
theorem ok_law_names {f : Addr} {fd : FuncData} (F : Fun K "_law_names" "_law_names" s__law_names f fd) (T : Txt mg) : FnOk P w K mg base CX0 1 f fd ["groups"] (spNames K) := by
  refine F.ok sc__law_names (fun vs H Q E h => ?_) (fun cdv A outer s H vs Q E hr h => ?_)
  · obtain ⟨F0, v, b, rfl, _⟩ := h
    rfl
  · obtain ⟨F0, v, b, rfl, fs, hb, nd, few, q⟩ := h
    have hu := hu_of hr
    refine ⟨_, (pss_cons (zs (i := 1) sc__law_names.nd pe_dnewK)
      (pss_cons (ps_for PassesOwn.never rfl (zseq K (pv 0)) (zg (i := 2) sc__law_names.nd)
        (pss_one (ps_for PassesOwn.never rfl (zseq K (pv 2)) (zg (i := 3) sc__law_names.nd)
          (pss_one (ps_dput hu (pv 1) (pv 3) (pe_ix (ix_LT K) (pv 2) pe_int (fun _ _ => rfl)) rfl)))))
      (pss_one (ps_ret (pv 1))))), ?_⟩
    have lz : 100000 < sizeLine := by rw [sizeLine_eq]; decide
    refine fun D hD => ?_
    have g0 := (Gr.refl (B := []) fs).newM (o := .dK []) hD
    have fD0 := fs.dm hD
    have hD0 : upd H D (.dK []) D = some (.dK []) := upd_same
    generalize upd H D (.dK []) = H1 at g0 hD0 ⊢
    refine ⟨_, rfl, seq_walk (show Dp K F0 v (.tuple (b.map encR)) from hb) (.inr rfl) g0.fh fun J xs G k1 hG hxs hlen => ?_⟩
    rw [hlen, List.length_map] at k1
    refine for_it k1 (fun i σ' H' => ∃ (o2 o3 : Option V), σ' = [some v, some (.ref D), o2, o3] ∧ Gr [] F0 H F0 H' ∧ H' D = some (.dK (namesV (b.take i)))) ⟨none, none, rfl, g0, hD0⟩ (fun i σ' H' _ ⟨_, _, _, g, _⟩ => hG H' g.fh) ?_ ?_
    · rintro i y σ' H2 H3 hi ⟨o2, o3, rfl, g, hDc⟩ ⟨rfl, hyi⟩
      obtain ⟨dd, e1, e2⟩ := hxs.get hyi
      rw [List.getElem?_map] at e1
      obtain ⟨k, hk, rfl⟩ := Option.map_eq_some_iff.mp e1
      have tk : b.take (i + 1) = b.take i ++ [k] := by rw [List.take_add_one, hk]; rfl
      have pre : (b.take i).flatten ++ k = (b.take (i + 1)).flatten := by rw [tk, List.flatten_append, List.flatten_cons, List.flatten_nil, List.append_nil]
      have sub : ((b.take i).flatten ++ k).Sublist b.flatten := by
        rw [pre]
        conv => rhs; rw [← List.take_append_drop (i + 1) b, List.flatten_append]
        exact List.sublist_append_left _ _
      dsimp only [List.set_cons_zero, List.set_cons_succ]
      refine ⟨_, rfl, seq_walk (show Dp K F0 y (.tuple (k.map .str)) from e2) (.inr rfl) g.fh fun J2 xs2 G2 k2 hG2 hxs2 hlen2 => ?_⟩
      rw [hlen2, List.length_map] at k2
      refine for_it k2 (fun j σ' H' => ∃ (o3 : Option V), σ' = [some v, some (.ref D), some y, o3] ∧ Gr [] F0 H F0 H' ∧ H' D = some (.dK (namesV (b.take i) ++ (k.take j).map fun m => (Sum.inr m, V.str (k.headD ""))))) ⟨o3, rfl, g, by simpa using hDc⟩ (fun j σ' H' _ ⟨_, _, g', _⟩ => hG2 H' g'.fh) ?_ ?_
      · rintro j x σ' H4 H5 hj ⟨o3, rfl, g', hDc'⟩ ⟨rfl, hxj⟩
        obtain ⟨dd, e3, e4⟩ := hxs2.get hxj
        rw [List.getElem?_map] at e3
        obtain ⟨m, hm, rfl⟩ := Option.map_eq_some_iff.mp e3
        rw [dp_str] at e4
        subst e4
        have tm : k.take (j + 1) = k.take j ++ [m] := by rw [List.take_add_one, hm]; rfl
        have keys : (namesV (b.take i) ++ (k.take j).map fun m => ((Sum.inr m, V.str (k.headD "")) : Key × V)).map (fun x => x.1) = (((b.take i).flatten ++ k.take j).map Sum.inr : List Key) := by
          rw [List.map_append, namesV_keys, List.map_map, List.map_append]
          rfl
        have new : m ∉ (b.take i).flatten ++ k.take j := by
          have z : ((b.take i).flatten ++ k.take (j + 1)).Nodup := nd.sublist ((List.Sublist.append_left (List.take_sublist _ _) _).trans sub)
          rw [tm, ← List.append_assoc] at z
          exact fun h => (List.nodup_append.mp z).2.2 m h m (by simp) rfl
        have vn : valV (namesV (b.take i) ++ (k.take j).map fun m => (Sum.inr m, V.str (k.headD ""))) (Sum.inr m) = none := by
          cases e : valV (namesV (b.take i) ++ (k.take j).map fun m => (Sum.inr m, V.str (k.headD ""))) (Sum.inr m) with
          | none => rfl
          | some u =>
            have z := valV_in e
            rw [keys, List.mem_map] at z
            obtain ⟨y, y1, y2⟩ := z
            cases y2
            exact absurd y1 new
        have hd : (k.map PyData.str)[0]? = some (.str (k.headD "")) := by
          cases k with
          | nil => simp at hm
          | cons z k => rfl
        dsimp only [List.set_cons_zero, List.set_cons_succ]
        refine ⟨_, rfl, ix_dp (show Dp K F0 y (.tuple (k.map .str)) from e2) (.inr rfl) g'.fh (e := .str (k.headD "")) (atI_nat (j := 0) hd) fun r hr => ?_⟩
        rw [dp_str] at hr
        subst hr
        refine ⟨_, rfl, _, rfl, D, _, rfl, DPut.k (k := Sum.inr m) hDc' ?_, ?_⟩
        · have z := congrArg List.length keys
          rw [List.length_map, List.length_map] at z
          have z2 := ((List.Sublist.append_left (List.take_sublist j k) ((b.take i).flatten)).trans sub).length_le
          omega
        · refine ⟨_, rfl, g'.mut fD0 (.inr hD), ?_⟩
          rw [upd_same, putK_new _ vn, tm, List.map_append, List.append_assoc]
          rfl
      · rintro σ' H4 ⟨o3, rfl, g', hDc'⟩
        rw [List.take_length] at hDc'
        refine ⟨_, _, rfl, g', ?_⟩
        rw [tk, namesV_snoc]
        exact hDc'
    · rintro σ' H2 ⟨o2, o3, rfl, g, hDc⟩
      rw [List.take_length] at hDc
      exact ⟨_, rfl, q D _ _ (g.done hD fD0 hDc) upd_same hDc⟩
theorem ok_law_blends {f : Addr} {fd : FuncData} (F : Fun K "_law_blends" "_law_blends" s__law_blends f fd) (T : Txt mg) : FnOk P w K mg base CX0 1 f fd ["marks"] (spLawBlends K) := by
  refine F.ok sc__law_blends (fun vs H Q E h => ?_) (fun cdv A outer s H vs Q E hr h => ?_)
  · obtain ⟨F0, v, d, ms, rfl, _⟩ := h
    rfl
  · obtain ⟨F0, v, d, ms, rfl, fs, hv, hq, l5, pw, q⟩ := h
    have hu16 := hu16_of hr
    refine ⟨_, (pss_cons (zs (i := 1) sc__law_blends.nd (pe_lst (pa_cons (pe_tup pa_nil) pa_nil)))
      (pss_cons (ps_for PassesOwn.never rfl (zseq K (pv 0)) (zg (i := 2) sc__law_blends.nd)
        (pss_cons (zs (i := 3) sc__law_blends.nd (pe_lst pa_nil))
        (pss_cons (ps_for PassesOwn.never rfl (zseq K (pv 1)) (zg (i := 4) sc__law_blends.nd)
          (pss_one (zs (i := 3) sc__law_blends.nd (pe_op op_cat (pe_op op_cat (pv 3) (pe_lst (pa_cons (pv 4) (pa_cons (pe_op (op_catAK K) (pv 4) (pe_tup (pa_cons (pe_tup (pa_cons (pv 2) pa_nil)) pa_nil))) pa_nil)))) (pe_lc (own := [("at", 5), ("group", 6)]) rfl sc__law_blends.nd (pi_enumD K T.enumerate (pa_cons (pv 4) pa_nil)) (blkOk_by (N := sc__law_blendsN) (sc := defScope s__law_blends) (by decide +kernel)) (fun _ _ _ _ _ => (zpg (n := 2) K (pgs_cons (zg (i := 5) sc__law_blends.nd) (pgs_cons (zg (i := 6) sc__law_blends.nd) pgs_nil)))) (fun _ _ _ _ _ => pts_nil) (fun _ _ _ _ _ => (pe_op (op_catAK K) (pe_op (op_catAK K) (pe_slice (sl_LA K) (pv 4) po_none (po_some (pv 5))) (pe_tup (pa_cons (pe_op (op_catAK K) (pv 6) (pe_tup (pa_cons (pv 2) pa_nil))) pa_nil))) (pe_slice (sl_LA K) (pv 4) (po_some (pe_op op_add (pv 5) pe_int)) po_none))))))))
        (pss_one (zs (i := 1) sc__law_blends.nd (pv 3))))))
      (pss_one (ps_ret (pe_callB (cr_sortedE K hu16) (by rfl) T.sorted bt_sorted (pa_cons (pe_lc (own := [("groups", 4)]) rfl sc__law_blends.nd (zseq K (pv 1)) (blkOk_by (N := sc__law_blendsN) (sc := defScope s__law_blends) (by decide +kernel)) (fun _ _ _ _ _ => (zg (i := 4) sc__law_blends.nd)) (fun _ _ _ _ _ => pts_nil) (fun _ _ _ _ _ => (pe_callTy (cr_tuple K) (by rfl) T.tuple bt_tuple (pa_cons (pe_callB (cr_sortedQ K hu16) (by rfl) T.sorted bt_sorted (pa_cons (pv 4) pa_nil)) pa_nil)))) pa_nil)))))), ?_⟩
    have lz : 100000 < sizeLine := by rw [sizeLine_eq]; decide
    refine ⟨Nat.zero_le _, fun p0 hp0 => ⟨by show 1 ≤ sizeLine; omega, fun p1 hp1 => ?_⟩⟩
    have g1 := ((Gr.refl (B := []) fs).new (o := .tup []) hp0).new (o := .lst [.ref p0]) hp1
    have d1 : DpAll K (upd (upd F0 p0 (.tup [])) p1 (.lst [.ref p0])) [.ref p0] ((parts []).map encB) := .cons (.tup (.inl (.inl (by rw [upd_ne (ne_of_none (upd_same : upd H p0 (.tup []) p0 = _) hp1)]; exact upd_same))) .nil) .nil
    have f1 : upd (upd F0 p0 (.tup [])) p1 (.lst [.ref p0]) p1 = some (.lst [.ref p0]) := upd_same
    generalize upd (upd F0 p0 (.tup [])) p1 (.lst [.ref p0]) = F1 at g1 d1 f1
    generalize upd (upd H p0 (.tup [])) p1 (.lst [.ref p0]) = H1 at g1 ⊢
    refine ⟨_, rfl, seq_walk (hv.ex g1.ff) hq g1.fh fun J xs G w1 hG hxs hlen => ?_⟩
    rw [hlen, List.length_map] at w1
    refine for_it w1 (fun i σ' H' => ∃ (o2 o3 o4 o5 o6 : Option V) (Fn : Addr) (zs : List V) (F' : Hp), σ' = [some v, some (.ref Fn), o2, o3, o4, o5, o6] ∧ Gr [] F0 H F' H' ∧ Ex F1 F' ∧ F' Fn = some (.lst zs) ∧ DpAll K F' zs ((parts (ms.take i)).map encB))
      ⟨none, none, none, none, none, p1, _, F1, rfl, g1, Ex.refl _, f1, d1⟩ (fun i σ' H' _ ⟨_, _, _, _, _, _, _, F', _, g, ex, _⟩ => hG H' fun a o e => g.fh a o (ex a o e)) ?_ ?_
    · rintro i y σ' H2 H3 hi ⟨o2, o3, o4, o5, o6, Fn, zs, F2, rfl, g2, ex2, f2, d2⟩ ⟨rfl, hyi⟩
      obtain ⟨dd, k1, k2⟩ := hxs.get hyi
      rw [List.getElem?_map] at k1
      obtain ⟨m, hm, rfl⟩ := Option.map_eq_some_iff.mp k1
      rw [dp_str] at k2
      subst k2
      have tk : ms.take (i + 1) = ms.take i ++ [m] := by rw [List.take_add_one, hm]; rfl
      have li : (ms.take i).length ≤ 5 := by rw [List.length_take]; omega
      obtain ⟨few1, few2⟩ := parts_few li
      refine ⟨Nat.zero_le _, fun L hL => ?_⟩
      have g3 := g2.new (o := .lst []) hL
      have f3 : upd F2 L (.lst []) L = some (.lst []) := upd_same
      have ex3 := Ex.new (o := HO.lst []) (g2.fh.dm hL)
      have dF3 : Dp K (upd F2 L (.lst [])) (.ref Fn) (.list ((parts (ms.take i)).map encB)) := .lst (.inl (.inl (ex3 _ _ f2))) (d2.ex ex3)
      have ex13 := ex2.trans ex3
      generalize upd H3 L (.lst []) = H4 at g3 ⊢
      generalize upd F2 L (.lst []) = F3 at g3 f3 dF3 ex13
      clear ex3
      dsimp only [List.set_cons_zero, List.set_cons_succ]
      refine ⟨_, rfl, seq_walk dF3 (.inl rfl) g3.fh fun J2 xs2 G2 w2 hG2 hxs2 hlen2 => ?_⟩
      rw [hlen2, List.length_map] at w2
      generalize hB : parts (ms.take i) = B at dF3 hxs2 w2 few1 few2
      refine for_it w2 (fun j σ' H' => ∃ (o4 o5 o6 : Option V) (N : Addr) (acc : List V) (F' : Hp), σ' = [some v, some (.ref Fn), some (.str m), some (.ref N), o4, o5, o6] ∧ Gr [] F0 H F' H' ∧ Ex F3 F' ∧ F' N = some (.lst acc) ∧ DpAll K F' acc (((B.take j).flatMap (oneMore m)).map encB))
        ⟨o4, o5, o6, L, [], F3, rfl, g3, Ex.refl _, f3, .nil⟩ (fun j σ' H' _ ⟨_, _, _, _, _, F', _, g, ex, _⟩ => hG2 H' fun a o e => g.fh a o (ex a o e)) ?_ ?_
      · rintro j y σ' H5 H6 hj ⟨o4, o5, o6, N, acc, F5, rfl, g5, ex5, f5, d5⟩ ⟨rfl, hyj⟩
        obtain ⟨dd, k1, k2⟩ := hxs2.get hyj
        rw [List.getElem?_map] at k1
        obtain ⟨b, hb, rfl⟩ := Option.map_eq_some_iff.mp k1
        have bB := List.mem_of_getElem? hb
        have tkB : B.take (j + 1) = B.take j ++ [b] := by rw [List.take_add_one, hb]; rfl
        have lb := few2 b bB
        have lacc : acc.length ≤ 203 * 7 := by
          have z := len_fm (oneMore m) 7 (B.take j) fun x hx => by rw [more_few]; have := few2 x (List.mem_of_mem_take hx); omega
          have z2 : (B.take j).length ≤ 203 := by rw [List.length_take]; omega
          have z3 := d5.length
          rw [List.length_map] at z3
          have z4 : (B.take j).length * 7 ≤ 203 * 7 := Nat.mul_le_mul_right 7 z2
          omega
        have hy : Dp K F5 y (.tuple (b.map encR)) := k2.ex ex5
        dsimp only [List.set_cons_zero, List.set_cons_succ]
        refine ⟨_, rfl, _, rfl, _, rfl, _, rfl, by show 1 ≤ sizeLine; omega, fun a ha => ⟨by show 1 ≤ sizeLine; omega, fun c hc => ?_⟩⟩
        have gA := ((Gr.refl (B := []) g5.fh).new (o := .tup [.str m]) ha).new (o := .tup [.ref a]) hc
        have dc : Dp K (upd (upd F5 a (.tup [.str m])) c (.tup [.ref a])) (.ref c) (.tuple [encR [m]]) := .tup (.inl (.inl upd_same)) (.cons (.tup (.inl (.inl (by rw [upd_ne (ne_of_none (upd_same : upd H6 a (.tup [.str m]) a = _) hc)]; exact upd_same))) (.cons (.str m) .nil)) .nil)
        generalize upd (upd F5 a (.tup [.str m])) c (.tup [.ref a]) = FA at gA dc
        generalize upd (upd H6 a (.tup [.str m])) c (.tup [.ref a]) = HA at gA ⊢
        refine cat_dp (hy.ex gA.ff) dc gA.fh (by rw [List.length_map]; simp; omega) fun r1 FB HB gB hr1 => ?_
        have gAB := gA.trans gB
        refine ⟨by show 2 ≤ sizeLine; omega, fun l1 hl1 => ⟨N, l1, acc, [y, r1], rfl, rfl, ?_, upd_same, by simp; omega, fun l2 hl2 => ?_⟩⟩
        · have z := sees_L gB.fh (gAB.ff _ _ f5)
          rw [upd_ne (ne_of_none z hl1)]
          exact z
        have gC := (gAB.newM (o := .lst [y, r1]) hl1).new (o := .lst (acc ++ [y, r1])) hl2
        have hyC := hy.ex gC.ff
        have f2C : upd FB l2 (.lst (acc ++ [y, r1])) l2 = some (.lst (acc ++ [y, r1])) := upd_same
        have d2C : DpAll K (upd FB l2 (.lst (acc ++ [y, r1]))) (acc ++ [y, r1]) (((B.take j).flatMap (oneMore m)).map encB ++ [encB b, encB (b ++ [[m]])]) := by
          refine (d5.ex gC.ff).append (.cons hyC (.cons ?_ .nil))
          have z := hr1.ex (Ex.new (o := HO.lst (acc ++ [y, r1])) ((gAB.newM (o := .lst [y, r1]) hl1).fh.dm hl2))
          rw [show encB (b ++ [[m]]) = .tuple (b.map encR ++ [encR [m]]) by rw [encB, List.map_append]; rfl]
          exact z
        generalize upd FB l2 (.lst (acc ++ [y, r1])) = FC at gC hyC f2C d2C
        generalize upd (upd HB l1 (.lst [y, r1])) l2 (.lst (acc ++ [y, r1])) = HC at gC ⊢
        clear gA gB gAB dc hr1 hl1 hl2 ha hc
        refine ⟨_, rfl, enum_walk hyC (.inr rfl) gC.fh fun J3 xs3 G3 w3 hG3 hxs3 hlen3 D hD => ?_⟩
        rw [hlen3, List.length_map] at w3
        refine lc_map (K := K) (bs := List.range b.length) (f := fun k => encB (b.take k ++ [b.getD k [] ++ [m]] ++ b.drop (k + 1))) (Im := fun k x F => ∃ T y1, x = .ref T ∧ F T = some (.tup [.int (k : Nat), y1]) ∧ Dp K F y1 (encR (b.getD k []))) (by rw [List.length_range]; exact w3) gC.fh hG3 (by rw [List.length_range]; omega)
          (fun i k x F' H' H'' hb g1 yy => ?_) (fun k x F' H' hk g1 im => ?_) hD fun accD F' H' gD fD hDc dD => ?_
        · obtain ⟨T1, x1, y1, rfl, hT1, rfl, h1, h2⟩ := yy
          obtain ⟨hi, rfl⟩ : i < b.length ∧ i = k := by
            obtain ⟨z1, z2⟩ := List.getElem?_eq_some_iff.mp hb
            rw [List.length_range] at z1
            exact ⟨z1, by simpa using z2⟩
          cases h1
          have h2 : xs3[i]? = some y1 := h2
          obtain ⟨dd, k1, k2⟩ := hxs3.get h2
          rw [List.getElem?_map] at k1
          obtain ⟨g, hg, rfl⟩ := Option.map_eq_some_iff.mp k1
          refine ⟨_, (Gr.refl g1.fh).new hT1, T1, y1, rfl, upd_same, ?_⟩
          rw [List.getD_eq_getElem?_getD, hg]
          exact (k2.ex g1.ff).ex (Ex.new (g1.fh.dm hT1))
        · obtain ⟨T1, y1, rfl, hT, hy1⟩ := im
          have lk := List.mem_range.mp hk
          intro Yes No h0 h1
          refine ⟨T1, [.int (k : Nat), y1], rfl, sees_t g1.fh (.inl (.inl hT)), rfl, _, _, rfl, _, _, rfl, rfl, rfl, yesI ?_⟩
          have hyk := hyC.ex g1.ff
          refine ⟨_, rfl, _, rfl, _, rfl, .mk (.inr (slT_dp (show Dp K F' y (.tuple (b.map encR)) from hyk) g1.fh fun r2 F7 H7 g7 hr2 => ?_))⟩
          rw [cut_bR] at hr2
          refine ⟨_, rfl, _, rfl, by show 1 ≤ sizeLine; omega, fun a ha => ?_⟩
          have g8 := (Gr.refl (B := []) g7.fh).new (o := .tup [.str m]) ha
          have da : Dp K (upd F7 a (.tup [.str m])) (.ref a) (.tuple [.str m]) := .tup (.inl (.inl upd_same)) (.cons (.str m) .nil)
          have lg : (b.getD k []).length ≤ 5 := by
            obtain ⟨p, g, s, e1, e2, e3, e4⟩ := split_at lk
            rw [e3]
            have z := parts_g (hB ▸ bB : b ∈ parts (ms.take i)) (show g ∈ b by rw [e1]; simp)
            omega
          refine cat_dp (show Dp K _ y1 (.tuple ((b.getD k []).map .str)) from (hy1.ex g7.ff).ex g8.ff) da g8.fh (by rw [List.length_map]; show (b.getD k []).length + 1 ≤ 1000; omega) fun r3 F9 H9 g9 hr3 => ?_
          have g79 := g8.trans g9
          refine ⟨by show 1 ≤ sizeLine; omega, fun c hc => ?_⟩
          have g10 := (Gr.refl (B := []) g9.fh).new (o := .tup [r3]) hc
          have dc : Dp K (upd F9 c (.tup [r3])) (.ref c) (.tuple [encR (b.getD k [] ++ [m])]) := by
            refine .tup (.inl (.inl upd_same)) (.cons ?_ .nil)
            rw [show encR (b.getD k [] ++ [m]) = .tuple ((b.getD k []).map .str ++ [.str m]) by rw [encR, List.map_append]; rfl]
            exact hr3.ex g10.ff
          refine cat_dp ((hr2.ex g79.ff).ex g10.ff) dc g10.fh (by simp only [List.length_append, List.length_map, List.length_take, List.length_drop, List.length_cons, List.length_nil]; omega) fun r4 F11 H11 g11 hr4 => ?_
          have gAll := ((g7.trans g79).trans g10).trans g11
          refine ⟨_, rfl, _, rfl, _, _, rfl, rfl, _, rfl, .mk (.inr (slT_dp (show Dp K F11 y (.tuple (b.map encR)) from hyk.ex gAll.ff) g11.fh fun r5 F12 H12 g12 hr5 => ?_))⟩
          rw [cut_bR'] at hr5
          refine cat_dp (hr4.ex g12.ff) hr5 g12.fh (by simp only [List.length_append, List.length_map, List.length_take, List.length_drop, List.length_cons, List.length_nil]; omega) fun r6 F13 H13 g13 hr6 => h1 rfl _ _ _ ((gAll.trans g12).trans g13) ?_
          rw [show encB (b.take k ++ [b.getD k [] ++ [m]] ++ b.drop (k + 1)) = .tuple ((b.take k).map encR ++ [encR (b.getD k [] ++ [m])] ++ (b.drop (k + 1)).map encR) by rw [encB, List.map_append, List.map_append]; rfl]
          exact hr6
        · have gCD := gC.trans gD
          have z := sees_L gD.fh (gD.ff _ _ f2C)
          have l2' := dD.length
          rw [List.length_map, List.length_range] at l2'
          refine ⟨l2, D, _, accD, rfl, rfl, z, hDc, by simp; omega, fun l3 hl3 => ?_⟩
          have gE := gCD.new (o := .lst (acc ++ [y, r1] ++ accD)) hl3
          have exE : Ex F' (upd F' l3 (.lst (acc ++ [y, r1] ++ accD))) := Ex.new (gD.fh.dm hl3)
          refine ⟨_, _, _, l3, _, _, rfl, g5.trans gE, ex5.trans gE.ff, upd_same, ?_⟩
          have z2 := ((d2C.ex gD.ff).ex exE).append (dD.ex exE)
          rw [tkB, List.flatMap_append, List.map_append]
          rw [show ([b].flatMap (oneMore m)).map encB = [encB b, encB (b ++ [[m]])] ++ (List.range b.length).map fun k => encB (b.take k ++ [b.getD k [] ++ [m]] ++ b.drop (k + 1)) by simp [oneMore, Function.comp_def], ← List.append_assoc]
          exact z2
      · rintro σ' H5 ⟨o4, o5, o6, N, acc, F5, rfl, g5, ex5, f5, d5⟩
        rw [List.take_length] at d5
        refine ⟨_, rfl, _, _, _, _, _, N, acc, F5, rfl, g5, ex13.trans ex5, f5, ?_⟩
        rw [tk, parts_snoc, hB]
        exact d5
    · rintro σ' H2 ⟨o2, o3, o4, o5, o6, Fn, zs, F2, rfl, g2, ex2, f2, d2⟩
      rw [List.take_length] at d2
      obtain ⟨few1, few2⟩ := parts_few l5
      have dFn : Dp K F2 (.ref Fn) (.list ((parts ms).map encB)) := .lst (.inl (.inl f2)) d2
      refine ⟨_, rfl, seq_walk dFn (.inl rfl) g2.fh fun J xs G w1 hG hxs hlen D1 hD1 => ?_⟩
      refine lc_seqM (bs := parts ms) (enc := encB) (f := fun b => encB (sortB b)) w1 hxs g2.fh hG (by omega) (fun b y F3 H3 hb g3 hy => turn1 rfl fun Yes h => ?_) hD1 fun acc F3 H3 g3 fD hDc hacc => ?_
      · have okb := parts_ok pw hb
        obtain ⟨a, as, rfl, h1, h2⟩ := dp_tup (show Dp K F3 y (.tuple (b.map encR)) from hy)
        refine ⟨_, rfl, _, encR, b, a, as, F3, rfl, g3.fh, .inr (sees_t g3.fh h1), h2, allAlike_R b, sortable_R okb.ne, fun g _ => by rw [depth_R]; decide, fun ys p hys hp => ?_⟩
        have g4 := (Gr.refl (B := []) g3.fh).newM (o := .lst ys) hp
        refine .mk ⟨p, ys, rfl, .inl ⟨.inl (.inl upd_same), fun l hl => ?_⟩⟩
        have g5 := g4.new (o := .tup ys) hl
        exact h _ _ _ g5 (.tup (.inl (.inl upd_same)) (hys.ex (Ex.new (g4.fh.dm hl))))
      · have e : (parts ms).map (fun b => encB (sortB b)) = ((parts ms).map sortB).map encB := by rw [List.map_map]; rfl
        rw [e] at hacc
        refine .mk ⟨_, encB, (parts ms).map sortB, D1, acc, F3, rfl, g3.fh, .inl (.inl (.inl hDc)), hacc, allAlike_B _, tup_B _, fun b _ => by have := depth_B b; omega, fun ys p hys hp => ?_⟩
        have g4 := (g2.trans g3).newM (o := .lst ys) hp
        exact q _ _ _ (g4.done (g2.trans g3 |>.dm _ hp) ((g2.trans g3).fh.dm hp) upd_same) (.lst (.inl (.inl upd_same)) (hys.ex (Ex.new ((g2.trans g3).fh.dm hp))))
end
end TW
set_option Elab.async false
set_option linter.all false
set_option maxRecDepth 100000
set_option maxHeartbeats 8000000
/-! the law's own thicker blends -/
namespace TW
open PySem PySem.Spec PyProof.Rows L2 RZ StX
open Evl (Ex)
theorem namesV_has {b : Bl} (nd : b.flatten.Nodup) (m : Str) : (valV (namesV b) (Sum.inr m)).isSome = b.flatten.contains m := by
  rw [namesV_get]
  by_cases h : m ∈ b.flatten
  · obtain ⟨g, hg, hm⟩ := List.mem_flatten.mp h
    rw [nameOf_some nd hg hm, List.contains_iff_mem.mpr h]
    rfl
  · rw [nameOf_none h]
    have z : b.flatten.contains m = false := by rw [Bool.eq_false_iff, Ne, List.contains_iff_mem]; exact h
    rw [z]
    rfl
theorem names_at {b : Bl} (nd : b.flatten.Nodup) {x : Str × Str} (hx : x ∈ namesS b) : nameOf b x.1 = some x.2 := by
  obtain ⟨g, hg, z⟩ := List.mem_flatMap.mp hx
  obtain ⟨m, hm, rfl⟩ := List.mem_map.mp z
  exact nameOf_some nd hg hm
/-- is a told list of whole numbers empty -/
theorem eq_nilI {K : PySem.W.Frag} {l : List Int} {x : V} {H : Hp} {Q : VK} {p : Addr} (hx : Dp K H x (.list (l.map .int))) (hp : H p = some (.lst [])) (q : Q (.bl (decide (l = []))) H) : rEqDD K x (.ref p) H Q :=
  .mk ⟨_, .list [], hx, .lst (.inl (.inl hp)) .nil, flat1_shaped (ds := l.map .int) fun e he => by
    obtain ⟨z, hz, rfl⟩ := List.mem_map.mp he
    rfl, rfl, by
    rw [eqv_nil, show decide (l.map PyData.int = []) = decide (l = []) by simp]
    exact q⟩
theorem pd_snoc {α β : Type} {R : α → β → Prop} {x : α} {y : β} (r : R x y) : ∀ {xs : List α} {ys : List β}, Paired R xs ys → Paired R (xs ++ [x]) (ys ++ [y])
  | _, _, .nil => .cons r .nil
  | _, _, .cons h t => .cons h (pd_snoc r t)
theorem pd_up {α β : Type} {R R' : α → β → Prop} (h : ∀ x y, R x y → R' x y) : ∀ {xs : List α} {ys : List β}, Paired R xs ys → Paired R' xs ys
  | _, _, .nil => .nil
  | _, _, .cons r t => .cons (h _ _ r) (pd_up h t)
/-- pairs of a sound and what is told of it, a new pair each turn -/
theorem prs {K : PySem.W.Frag} {J : It} {G : Hp → Prop} {Y : Nat → Hp → V → Hp → Prop} {g : TG} {te : TE} {vs : List Nat} {σ : L2.St} {F H1 : Hp} {D : Addr} {Qd : Hp → Prop} {ks : List Str} {m : Str → List Str} {enc : List PyData → PyData} (w : Walk J ks.length G Y) (sees : Sees F H1) (hG : ∀ F' H', Gr [] F H1 F' H' → G H') (few : ks.length ≤ 1000) (nd : ks.Nodup)
    (hY : ∀ i k x F' H' H'', ks[i]? = some k → Gr [] F H1 F' H' → Y i H' x H'' → H'' = H' ∧ x = .str k)
    (hs : ∀ k F' H', k ∈ ks → Gr [] F H1 F' H' → TurnP [] g tYes te vs σ (.str k) F' H' true (fun y F3 _ => ∃ t v, y = .ref t ∧ F3 t = some (.tup [.str k, v]) ∧ Dp K F3 v (enc ((m k).map .str))))
    (hD : H1 D = none) (q : ∀ (as : List Addr) (kvs : List (Key × V)) F' H', Gr [] F H1 F' H' → F' D = none → H' D = some (.lst (as.map V.ref)) → Paired (fun (t : Addr) (kv : Key × V) => F' t = some (.tup [kV kv.1, kv.2])) as kvs → Tells K F' kvs ks m enc → Qd H') : LcW J g tYes te vs σ H1 D Qd := by
  refine lc_st (B := []) w sees (fun _ h => absurd h (by simp)) (fun i acc F' H' => ∃ (as : List Addr) (kvs : List (Key × V)), acc = as.map V.ref ∧ Paired (fun (t : Addr) (kv : Key × V) => F' t = some (.tup [kV kv.1, kv.2])) as kvs ∧ Tells K F' kvs (ks.take i) m enc) (fun _ _ _ _ _ _ h _ => h) (fun i acc F' H' _ gr _ => hG F' H' gr) ⟨[], [], rfl, .nil, rfl, by simp⟩ (by omega)
    (fun i acc x F' H' H'' hi _ gr ⟨as, kvs, e1, e2, e3⟩ yy => ?_) hD fun acc F' H' gr fD hDc ⟨as, kvs, e1, e2, e3⟩ => by subst e1; rw [List.take_length] at e3; exact q as kvs F' H' gr fD hDc e2 e3
  have hk : ks[i]? = some ks[i] := List.getElem?_eq_getElem hi
  generalize ks[i] = k at hk
  obtain ⟨rfl, rfl⟩ := hY i k x F' H' H'' hk gr yy
  refine ⟨F', Gr.refl gr.fh, true, fun Yes No n0 n1 => hs k F' H'' (List.mem_of_getElem? hk) gr Yes No (fun z => nomatch z) fun _ y F3 H3 g3 ⟨t, v, e4, e5, e6⟩ => n1 rfl y F3 H3 g3 ?_⟩
  have tk : ks.take (i + 1) = ks.take i ++ [k] := by rw [List.take_add_one, hk]; rfl
  have new : k ∉ ks.take i := by
    have z := nd.sublist (List.take_sublist (i + 1) ks)
    rw [tk] at z
    exact fun h => (List.nodup_append.mp z).2.2 k h k (by simp) rfl
  have vn : valV kvs (Sum.inr k) = none := by
    cases e : valV kvs (Sum.inr k) with
    | none => rfl
    | some u =>
      have z := valV_in e
      rw [e3.ke, List.mem_map] at z
      obtain ⟨y, y1, y2⟩ := z
      cases y2
      exact absurd y1 new
  have pt := tells_put (z := v) (e3.ex g3.ff) nd hk e6
  rw [putK_new v vn] at pt
  refine ⟨as ++ [t], kvs ++ [(Sum.inr k, v)], ?_, pd_snoc (R := fun (t : Addr) (kv : Key × V) => F3 t = some (.tup [kV kv.1, kv.2])) (y := (Sum.inr k, v)) e5 (pd_up (fun a b h => g3.ff _ _ h) e2), pt⟩
  rw [e1, e4, List.map_append]
  rfl
def spLawThicker (K : PySem.W.Frag) : Sp := fun vs H Q _ => ∃ (F : Hp) (ve vp vq : V) (ms : List Str) (p q : Bl), vs = [ve, vp, vq] ∧ Sees F H ∧ Dp K F ve (.list (ms.map .str)) ∧ Dp K F vp (encB p) ∧ Dp K F vq (encB q) ∧ BlOk ms p ∧ BlOk ms q ∧ ms.length ≤ 100 ∧ (∀ z ∈ ms, PyData.strOk z = true) ∧
  ∀ F' H', Gr [] F H F' H' → Q (.bl (lawThick ms p q)) H'
def spLawBlended (K : PySem.W.Frag) : Sp := fun vs H Q _ => ∃ (F : Hp) (a : Addr) (kvs : List (Key × V)) (ks : List Str) (m : Str → List Str) (v : V) (b : Bl), vs = [.ref a, v] ∧ Sees F H ∧ F a = some (.dK kvs) ∧ H a = some (.dK kvs) ∧ Tells K F kvs ks m .tuple ∧ ks.length ≤ 100 ∧ ks.Nodup ∧ (∀ k ∈ ks, (m k).length ≤ 100) ∧ Dp K F v (encB b) ∧ b.flatten.Nodup ∧ b.flatten.length ≤ 1000 ∧
  ∀ (D : Addr) (kvs' : List (Key × V)) F' H', Gr [] F H F' H' → F' D = some (.dK kvs') → H' D = some (.dK kvs') → Tells K F' kvs' ks (fun k => imgS b (m k)) .tuple → Q (.ref D) H'
section
variable {P : Program} {w : World} {K : PySem.W.Frag} {mg : Str → Option Value} {base : Heap}
theorem ok_law_thicker {f : Addr} {fd : FuncData} (F : Fun K "_law_thicker" "_law_thicker" s__law_thicker f fd) (T : Txt mg) (C__law_names : Cal P w K mg base "_law_names" 1 ["groups"] [] (spNames K)) : FnOk P w K mg base CX0 2 f fd ["every", "one", "other"] (spLawThicker K) := by
  refine F.ok sc__law_thicker (fun vs H Q E h => ?_) (fun cdv A outer s H vs Q E hr h => ?_)
  · obtain ⟨F0, ve, vp, vq, ms, p, q', rfl, _⟩ := h
    rfl
  · obtain ⟨F0, ve, vp, vq, ms, p, q', rfl, fs, he, hp, hq, okp, okq, lm, sOk, q⟩ := h
    have hu := hu_of hr
    have hu64 := hr.units
    refine ⟨_, (pss_cons (ps_asg (pe_tup (pa_cons (pe_cal C__law_names (hr.mono (by decide)) (pa_cons (pv 1) pa_nil)) (pa_cons (pe_cal C__law_names (hr.mono (by decide)) (pa_cons (pv 2) pa_nil)) pa_nil))) (zpg (n := 2) K (pgs_cons (zg (i := 3) sc__law_thicker.nd) (pgs_cons (zg (i := 4) sc__law_thicker.nd) pgs_nil))))
      (pss_cons (ps_if (pt_cmpR (op_neDD K hu64) (pe_lc (own := [("mark", 5)]) rfl sc__law_thicker.nd (zseq K (pv 0)) (blkOk_by (N := sc__law_thickerN) (sc := defScope s__law_thicker) (by decide +kernel)) (fun _ _ _ _ _ => (zg (i := 5) sc__law_thicker.nd)) (fun _ _ _ _ _ => (pts_one (PW.pt (pw_and (pt_cmp (pc_dnotin hu (pv 5) (pv 4))) (pw_and1 (pt_cmp (pc_din hu (pv 5) (pv 3)))))))) (fun _ _ _ _ _ => (pv 5))) (pe_lst pa_nil) (nomark _))
        (pss_one (ps_ret pe_bl))
        pss_nil)
      (pss_cons (ps_lock (ps_setLc (i := 6) (own := [("mark", 5)]) rfl sc__law_thicker.nd rfl rfl (sw_true rfl rfl rfl (by decide +kernel)) (pi_keys (pv 4)) (blkOk_by (N := sc__law_thickerN) (sc := defScope s__law_thicker) (by decide +kernel)) (fun _ _ _ _ _ => (zg (i := 5) sc__law_thicker.nd)) (fun _ _ _ _ _ => pts_nil) (fun _ _ _ _ _ => (pe_tup (pa_cons (pv 5) (pa_cons (pe_dget hu (pv 4) (pv 5) (fun _ _ => rfl)) pa_nil))))))
      (pss_one (ps_ret (pe_cmpR (op_eqDD K hu64) (pe_lc (own := [("mark", 5), ("name", 7)]) rfl sc__law_thicker.nd (zseq K (pv 6)) (blkOk_by (N := sc__law_thickerN) (sc := defScope s__law_thicker) (by decide +kernel)) (fun _ _ _ _ _ => (zpg (n := 2) K (pgs_cons (zg (i := 5) sc__law_thicker.nd) (pgs_cons (zg (i := 7) sc__law_thicker.nd) pgs_nil)))) (fun _ _ _ _ _ => (pts_one (pt_cmpR op_ne (pe_dget2 hu (pv 3) (pv 5) pe_str (m2_of rfl)) (pe_dget2 hu (pv 3) (pv 7) pe_str (m2_of rfl)) (nomark _)))) (fun _ _ _ _ _ => pe_int)) (pe_lst pa_nil) (nomark _))))))), ?_⟩
    have lz : 100000 < sizeLine := by rw [sizeLine_eq]; decide
    have lfp := okp.flat
    have lfq := okq.flat
    refine ⟨_, rfl, F0, vp, p, rfl, fs, hp, okp.nd, by omega, fun D1 F1 H1 g1 f1 h1 => ?_⟩
    refine ⟨_, rfl, F1, vq, q', rfl, g1.fh, hq.ex g1.ff, okq.nd, by omega, fun D2 F2 H2 g2 f2 h2 => ⟨by show 2 ≤ sizeLine; omega, fun t ht => ?_⟩⟩
    have g3 := (g1.trans g2).new (o := .tup [.ref D1, .ref D2]) ht
    have tt3 : SqT K (upd H2 t (.tup [.ref D1, .ref D2])) t [.ref D1, .ref D2] := .inl (.inl upd_same)
    have e3 := Ex.new (o := HO.tup [.ref D1, .ref D2]) (g2.fh.dm ht)
    have f13 := e3 _ _ (g2.ff _ _ f1)
    have f23 := e3 _ _ f2
    have h23 : upd H2 t (.tup [.ref D1, .ref D2]) D2 = some (.dK (namesV q')) := by rw [upd_ne (ne_of_none h2 ht)]; exact h2
    generalize upd F2 t (.tup [.ref D1, .ref D2]) = F3 at g3 f13 f23
    generalize upd H2 t (.tup [.ref D1, .ref D2]) = H3 at g3 tt3 h23 ⊢
    clear g1 g2 f1 h1 f2 h2 ht e3
    refine ⟨t, _, rfl, tt3, rfl, _, _, rfl, _, _, rfl, rfl, ?_⟩
    dsimp only [List.set_cons_zero, List.set_cons_succ]
    refine ⟨_, rfl, seq_walk (he.ex g3.ff) (.inl rfl) g3.fh fun J xs G w1 hG hxs hlen D hD => ?_⟩
    refine lc_seqP (bs := ms) (enc := .str) (p := fun m => !q'.flatten.contains m && p.flatten.contains m) (f := .str) w1 hxs g3.fh hG (by omega) (fun m y F4 H4 hm g4 hy => ?_) hD fun acc F4 H4 g4 fD hDc hacc => ?_
    · rw [dp_str] at hy
      subst hy
      intro Yes No n0 n1
      have r1 : Rd H4 D1 (.dK (namesV p)) := sees_d g4.fh (g4.ff _ _ f13)
      have r2 : Rd H4 D2 (.dK (namesV q')) := sees_d g4.fh (g4.ff _ _ f23)
      refine ⟨rfl, ?_⟩
      refine ⟨_, rfl, _, rfl, D2, _, rfl, .inl ⟨_, Sum.inr m, r2, rfl, rfl⟩, _, rfl, ?_⟩
      rw [namesV_has okq.nd]
      by_cases c1 : (!q'.flatten.contains m) = true
      · refine iteYes c1 ⟨_, rfl, _, rfl, D1, _, rfl, .inl ⟨_, Sum.inr m, r1, rfl, rfl⟩, _, rfl, ?_⟩
        rw [namesV_has okp.nd]
        by_cases c2 : p.flatten.contains m = true
        · refine iteYes c2 ⟨_, rfl, n1 (by rw [c1, c2]; rfl) _ _ _ (Gr.refl g4.fh) (.str m)⟩
        · refine iteNo c2 (n0 (by rw [Bool.not_eq_true] at c2; rw [c2, Bool.and_false]) _ _ (Gr.refl g4.fh) True.intro)
      · refine iteNo c1 (iteF (n0 (by rw [Bool.not_eq_true] at c1; rw [c1, Bool.false_and]) _ _ (Gr.refl g4.fh) True.intro))
    have gd := (g3.trans g4).done ((g3.dm _ hD)) fD hDc
    have fDl : upd F4 D (.lst acc) D = some (.lst acc) := upd_same
    have dl : Dp K (upd F4 D (.lst acc)) (.ref D) (.list ((ms.filter fun m => !q'.flatten.contains m && p.flatten.contains m).map .str)) := .lst (.inl (.inl fDl)) (hacc.ex (Ex.new fD))
    have f14 := (Ex.new (o := HO.lst acc) fD) _ _ (g4.ff _ _ f13)
    have f24 := (Ex.new (o := HO.lst acc) fD) _ _ (g4.ff _ _ f23)
    have h24 := g4.at h23
    generalize upd F4 D (.lst acc) = F5 at gd dl f14 f24
    refine ⟨Nat.zero_le _, fun l hl => ?_⟩
    have g5 := gd.newM (o := .lst []) hl
    refine ne_nil (fun z hz => sOk z (List.mem_filter.mp hz).1) (dl.sees g5.fh) upd_same ⟨_, rfl, ?_⟩
    have h25 : upd H4 l (.lst []) D2 = some (.dK (namesV q')) := by rw [upd_ne (ne_of_none h24 hl)]; exact h24
    generalize upd H4 l (.lst []) = H5 at g5 h25 ⊢
    clear gd dl hDc hacc fD g4 h24 fDl hl
    by_cases c : (ms.filter fun m => !q'.flatten.contains m && p.flatten.contains m) = []
    · refine iteNo (by rw [decide_eq_true c]; decide) ?_
      have lnm : (namesS q').length = (namesV q').length := by simp [namesV]
      have few : (namesS q').length ≤ 100 := by
        have z := congrArg List.length (names_keys q')
        rw [List.length_map] at z
        omega
      refine ⟨D2, _, h25, True.intro, fun od => ?_⟩
      have na : upd H5 D2 (.frz od (.dK (namesV q'))) D2 = some (.frz od (.dK (namesV q'))) := upd_same
      refine ⟨_, rfl, D2, od, rfl, .inl ⟨namesV q', na, fun E hE => ?_⟩⟩
      refine lc_mapG (K := K) (bs := namesS q') (f := fun x => .tuple [.str x.1, .str x.2]) (Im := fun x y F => y = .str x.1) (by rw [lnm]; exact walk_keys) (sees_lock g5.fh f24) (fun F' H' g => g.at na) (by omega) (fun i x y F' H' H'' hb g1 yy => ?_) (fun x y F' H' hx g1 im => ?_) hE fun acc F6 H6 g6 fE hEc hacc => ?_
      · obtain ⟨rfl, k, v, e1, rfl⟩ := yy
        have e2 : (namesV q')[i]? = some (Sum.inr x.1, V.str x.2) := by unfold namesV; rw [List.getElem?_map, hb]; rfl
        rw [e2] at e1
        cases e1
        exact ⟨F', Gr.refl g1.fh, rfl⟩
      · subst im
        refine turn1 rfl fun Yes h => ⟨_, rfl, _, rfl, _, rfl, D2, .str x.2, rfl, .inl ⟨_, Sum.inr x.1, .inr ⟨od, g1.at na⟩, rfl, ?_⟩, by show 2 ≤ sizeLine; omega, fun t ht => h _ _ _ ((Gr.refl g1.fh).new ht) (.tup (.inl (.inl upd_same)) (.cons (.str _) (.cons (.str _) .nil)))⟩
        rw [namesV_get, names_at okq.nd hx]
        rfl
      refine ⟨g6.at na, ?_⟩
      have g7 := g5.trans (Gr.unlock f24 h25 (g6.done hE fE hEc))
      have dE : Dp K (upd F6 E (.lst acc)) (.ref E) (.list ((namesS q').map fun x => .tuple [.str x.1, .str x.2])) := .lst (.inl (.inl upd_same)) (hacc.ex (Ex.new fE))
      have f17 := (Ex.new (o := HO.lst acc) fE) _ _ (g6.ff _ _ f14)
      generalize upd F6 E (.lst acc) = F7 at g7 dE f17
      generalize upd H6 D2 (.dK (namesV q')) = H7 at g7 ⊢
      refine ⟨_, rfl, seq_walk dE (.inl rfl) g7.fh fun J2 xs2 G2 w2 hG2 hxs2 hlen2 D hD => ?_⟩
      refine lc_seqP (bs := namesS q') (enc := fun x => .tuple [.str x.1, .str x.2]) (p := fun x => decide (nameD p x.1 ≠ nameD p x.2)) (f := fun _ => .int 1) w2 hxs2 g7.fh hG2 (by omega) (fun x y F8 H8 hx g8 hy => ?_) hD fun acc8 F8 H8 g8 fD hDc hacc8 => ?_
      · obtain ⟨T1, xs1, rfl, hT, hx1⟩ := dp_tup hy
        have e1 : xs1 = [V.str x.1, V.str x.2] := dps_str (l := [x.1, x.2]) |>.mp hx1
        subst e1
        intro Yes No n0 n1
        have r1 : Rd H8 D1 (.dK (namesV p)) := sees_d g8.fh (g8.ff _ _ f17)
        refine ⟨T1, _, rfl, sees_t g8.fh hT, rfl, _, _, rfl, _, _, rfl, rfl, rfl, ?_⟩
        refine ⟨_, rfl, D1, rfl, .inl ⟨_, r1⟩, _, rfl, _, .inl ⟨_, Sum.inr x.1, r1, rfl, rfl⟩, ?_⟩
        rw [namesV_getD]
        refine ⟨_, rfl, D1, rfl, .inl ⟨_, r1⟩, _, rfl, _, .inl ⟨_, Sum.inr x.2, r1, rfl, rfl⟩, ?_⟩
        rw [namesV_getD]
        refine ⟨rfl, _, rfl, ?_⟩
        by_cases cc : nameD p x.1 = nameD p x.2
        · refine iteNo (by rw [cc]; simp) (n0 (decide_eq_false (fun z => z cc)) _ _ (Gr.refl g8.fh) True.intro)
        · refine iteYes (by rw [Bool.not_eq_true', decide_eq_false_iff_not]; exact fun z => cc (V.str.inj z)) (n1 (decide_eq_true cc) _ _ _ (Gr.refl g8.fh) (.int 1))
      · have g9 := (g7.trans g8).done (g7.dm _ hD) fD hDc
        have e9 : ((namesS q').filter fun x => decide (nameD p x.1 ≠ nameD p x.2)).map (fun _ => PyData.int 1) = (((namesS q').filter fun x => decide (nameD p x.1 ≠ nameD p x.2)).map fun _ => (1 : Int)).map PyData.int := by rw [List.map_map]; rfl
        rw [e9] at hacc8
        have d9 : Dp K (upd F8 D (.lst acc8)) (.ref D) (.list ((((namesS q').filter fun x => decide (nameD p x.1 ≠ nameD p x.2)).map fun _ => (1 : Int)).map PyData.int)) := .lst (.inl (.inl upd_same)) (hacc8.ex (Ex.new fD))
        refine ⟨Nat.zero_le _, fun l2 hl2 => ?_⟩
        have g10 := g9.newM (o := .lst []) hl2
        refine eq_nilI (d9.sees g10.fh) upd_same ?_
        have e : lawThick ms p q' = decide ((namesS q').filter (fun x => decide (nameD p x.1 ≠ nameD p x.2)) = []) := by
          unfold lawThick
          rw [if_neg (by simpa using c)]
        have z := q _ _ g10
        rw [e] at z
        rw [show decide (((namesS q').filter fun x => decide (nameD p x.1 ≠ nameD p x.2)).map (fun _ => (1 : Int)) = []) = decide ((namesS q').filter (fun x => decide (nameD p x.1 ≠ nameD p x.2)) = []) by rw [decide_eq_decide, List.map_eq_nil_iff]]
        exact z
    · refine iteYes (by rw [decide_eq_false c]; rfl) ?_
      have e : lawThick ms p q' = false := by unfold lawThick; rw [if_pos c]
      have z := q _ _ g5
      rw [e] at z
      exact z
theorem ok_law_blended {f : Addr} {fd : FuncData} (F : Fun K "_law_blended" "_law_blended" s__law_blended f fd) (T : Txt mg) (C__law_names : Cal P w K mg base "_law_names" 1 ["groups"] [] (spNames K)) : FnOk P w K mg base CX0 2 f fd ["marks", "groups"] (spLawBlended K) := by
  refine F.ok sc__law_blended (fun vs H Q E h => ?_) (fun cdv A outer s H vs Q E hr h => ?_)
  · obtain ⟨F0, a, kvs, ks, m, v, b, rfl, _⟩ := h
    rfl
  · obtain ⟨F0, a, kvs, ks, m, v, b, rfl, fs, fa, ha, tl, few, nd, fewm, hb, bnd, bfew, q⟩ := h
    have hu := hu_of hr
    have hu8 := hu8_of hr
    refine ⟨_, (pss_cons (zs (i := 2) sc__law_blended.nd (pe_cal C__law_names (hr.mono (by decide)) (pa_cons (pv 1) pa_nil)))
      (pss_one (ps_ret (pe_callTy (call_dictP rfl) (by rfl) T.dict bt_dict (pa_cons (pe_lock (pe_lc (own := [("sound", 4)]) rfl sc__law_blended.nd (pi_keys (pv 0)) (blkOk_by (N := sc__law_blendedN) (sc := defScope s__law_blended) (by decide +kernel)) (fun _ _ _ _ _ => (zg (i := 4) sc__law_blended.nd)) (fun _ _ _ _ _ => pts_nil) (fun _ _ _ _ _ => (pe_tup (pa_cons (pv 4) (pa_cons (pe_callTy (cr_tuple K) (by rfl) T.tuple bt_tuple (pa_cons (pe_callB (cr_sortedKS w hu8) (by rfl) T.sorted bt_sorted (pa_cons (pe_callTy (cr_setK K w) (by rfl) T.set bt_set (pa_cons (pe_lc (own := [("mark", 3)]) rfl sc__law_blended.nd (zseq K (pe_dget hu (pv 0) (pv 4) (fun _ _ => rfl))) (blkOk_by (by first | rfl | kernel_rfl)) (fun _ _ _ _ _ => (zg (i := 3) sc__law_blended.nd)) (fun _ _ _ _ _ => pts_nil) (fun _ _ _ _ _ => (pe_callTy SkE.call_str_str (by rfl) T.str bt_str (pa_cons (pe_dget2 hu (pv 2) (pv 3) pe_str (m2_of rfl)) pa_nil)))) pa_nil)) pa_nil)) pa_nil)) pa_nil)))))) pa_nil))))), ?_⟩
    have lz : 100000 < sizeLine := by rw [sizeLine_eq]; decide
    have lk := tells_len tl
    refine ⟨_, rfl, F0, v, b, rfl, fs, hb, bnd, bfew, fun p F1 H1 g1 fp hp => ?_⟩
    have fa1 := g1.ff _ _ fa
    have ha1 := g1.at ha
    have tl1 := tl.ex g1.ff
    refine ⟨a, _, ha1, True.intro, fun od => ?_⟩
    have na : upd H1 a (.frz od (.dK kvs)) a = some (.frz od (.dK kvs)) := upd_same
    refine ⟨_, rfl, a, od, rfl, .inl ⟨kvs, na, fun D hD => ?_⟩⟩
    refine prs (K := K) (ks := ks) (m := fun k => imgS b (m k)) (enc := .tuple) (by rw [← lk]; exact walk_keys) (sees_lock g1.fh fa1) (fun F' H' g => g.at na) (by omega) nd (fun i k x F' H' H'' hk gr yy => ?_) (fun k F2 H2 hk g2 => ?_) hD fun as kvs' F2 H2 g2 fD hDc pr tl2 => ?_
    · obtain ⟨rfl, k', v', e1, rfl⟩ := yy
      rw [tells_at tl1 e1 hk]
      exact ⟨rfl, rfl⟩
    · obtain ⟨u, u1, u2⟩ := tl1.va k hk
      have fewk := fewm k hk
      refine turn1 rfl fun Yes h => ⟨_, rfl, ?_⟩
      refine ⟨_, rfl, _, rfl, a, u, rfl, .inl ⟨kvs, Sum.inr k, .inr ⟨od, g2.at na⟩, rfl, u1.symm⟩, ?_⟩
      refine seq_walk (u2.ex g2.ff) (.inr rfl) g2.fh fun J xs Gx w1 hGx hxs hlen L hL => ?_
      refine lc_seqM (bs := m k) (enc := .str) (f := fun z => .str (nameD b z)) w1 hxs g2.fh hGx (by omega) (fun z y F6 H6 hm g6 hz => turn1 rfl fun Yes2 h2 => ?_) hL fun acc2 F6 H6 g6 fL hLc hacc2 => ?_
      · rw [dp_str] at hz
        subst hz
        have rp : Rd H6 p (.dK (namesV b)) := sees_d g6.fh (g6.ff _ _ (g2.ff _ _ fp))
        refine ⟨_, rfl, p, rfl, .inl ⟨_, rp⟩, _, rfl, _, .inl ⟨namesV b, Sum.inr z, rp, rfl, rfl⟩, nameD b z, ?_, h2 _ _ _ (Gr.refl g6.fh) (.str _)⟩
        rw [namesV_getD]
      rw [show (m k).map (fun z => PyData.str (nameD b z)) = ((m k).map (nameD b)).map PyData.str by rw [List.map_map]; rfl, dps_str] at hacc2
      subst hacc2
      generalize hl : (m k).map (nameD b) = l at hLc
      have ll : l.length ≤ 100 := by rw [← hl, List.length_map]; exact fewk
      refine ⟨L, l.map Sum.inr, rfl, .inl (by rw [keys_str]; exact .inl (.inl hLc)), by rw [List.length_map]; omega, fun q1 n hq1 hn hex => ⟨q1, l, n, rfl, upd_same, fun ns p4 srt nds mem len hp4 => ?_⟩⟩
      have ens : ns = imgS b (m k) := slt_eq (slt_sorted srt nds) (imgS_pw b _) fun z => by rw [mem z, imgS_mem, hl]
      have g7 := (g6.newM (o := SKO w q1 (l.map Sum.inr) n) hq1).newM (o := .lst (ns.map V.str)) hp4
      refine .mk ⟨p4, ns.map V.str, rfl, .inl ⟨.inl (.inl upd_same), fun l2 hl2 => ⟨by show 2 ≤ sizeLine; omega, fun t ht => ?_⟩⟩⟩
      have g8 := (g7.new (o := .tup (ns.map V.str)) hl2).new (o := .tup [.str k, .ref l2]) ht
      refine h _ _ _ g8 ⟨t, .ref l2, rfl, upd_same, .tup (.inl (.inl (by rw [upd_ne (ne_of_none (upd_same : upd (upd (upd H6 q1 (SKO w q1 (l.map Sum.inr) n)) p4 (.lst (ns.map V.str))) l2 (.tup (ns.map V.str)) l2 = _) ht)]; exact upd_same))) ?_⟩
      rw [ens]
      exact dps_str.mpr rfl
    · refine ⟨g2.at na, ?_⟩
      have g3 := g1.trans (Gr.unlock fa1 ha1 g2)
      have nDa : D ≠ a := ne_of hDc (g2.at na) (fun z => nomatch z)
      have hD3 : upd H2 a (.dK kvs) D = some (.lst (as.map V.ref)) := by rw [upd_ne nDa]; exact hDc
      generalize upd H2 a (.dK kvs) = H3 at g3 hD3 ⊢
      refine ⟨D, as, kvs', rfl, .inl (.inl hD3), pd_up (fun t kv h => sees_t g3.fh (.inl (.inl h))) pr, fun E hE => ?_⟩
      have ndk : (kvs'.map (·.1)).Nodup := by rw [tl2.ke]; exact List.pairwise_map.mpr (nd.imp fun n z => n (Sum.inr.inj z))
      rw [mergeK_nil ndk]
      have g4 := g3.new (o := .dK kvs') hE
      exact q E kvs' _ _ g4 upd_same upd_same (tl2.ex (Ex.new (g3.fh.dm hE)))
end
end TW
set_option Elab.async false
set_option linter.all false
set_option maxRecDepth 100000
set_option maxHeartbeats 4000000
/-! repr of told blends -/
namespace TW
open PySem PySem.Spec PyProof.Rows L2
theorem sum_few (n : Nat) : ∀ l : List Nat, (∀ k ∈ l, k ≤ n) → l.sum ≤ l.length * n
  | [], _ => by simp
  | a :: l, h => by
    have z := sum_few n l fun k hk => h k (List.mem_cons_of_mem _ hk)
    have y := h a List.mem_cons_self
    rw [List.sum_cons, List.length_cons, Nat.succ_mul]
    omega
theorem shownAll_map : ∀ l : List PyData, PyData.shownAll l = l.map PyData.shown
  | [] => by simp [PyData.shownAll]
  | d :: l => by rw [PyData.shownAll, List.map_cons, shownAll_map l]
/-- short marks -/
def Short (z : Str) : Prop := z.length ≤ 8 ∧ ∀ c ∈ z.cps.toList, c < 16 ^ 8
theorem shown_R {g : List Str} (h : ∀ z ∈ g, Short z) (l : g.length ≤ 5) : (encR g).shown.length ≤ 423 := by
  rw [encR, PyData.shown, shownAll_map, List.map_map]
  refine Nat.le_trans (tupleText_len_le _) ?_
  rw [List.map_map, List.length_map]
  have z := sum_few 82 (g.map ((·.length) ∘ PyData.shown ∘ PyData.str)) fun k hk => by
    obtain ⟨x, hx, rfl⟩ := List.mem_map.mp hk
    obtain ⟨h1, h2⟩ := h x hx
    show (PyData.shown (.str x)).length ≤ 82
    rw [PyData.shown]
    have := PySem.StrLaws.reprText_len x h2
    omega
  rw [List.length_map] at z
  omega
theorem shown_B {b : Bl} (h : ∀ g ∈ b, (∀ z ∈ g, Short z) ∧ g.length ≤ 5) (l : b.length ≤ 5) : (encB b).shown.length ≤ 2128 := by
  rw [encB, PyData.shown, shownAll_map, List.map_map]
  refine Nat.le_trans (tupleText_len_le _) ?_
  rw [List.map_map, List.length_map]
  have z := sum_few 423 (b.map ((·.length) ∘ PyData.shown ∘ encR)) fun k hk => by
    obtain ⟨x, hx, rfl⟩ := List.mem_map.mp hk
    exact shown_R (h x hx).1 (h x hx).2
  rw [List.length_map] at z
  omega
theorem shown_L {l : List Bl} (h : ∀ b ∈ l, (∀ g ∈ b, (∀ z ∈ g, Short z) ∧ g.length ≤ 5) ∧ b.length ≤ 5) (few : l.length ≤ 203) : (PyData.list (l.map encB)).shown.length ≤ sizeLine := by
  rw [PyData.shown, shownAll_map, List.map_map]
  refine Nat.le_trans (listText_len_le _) ?_
  rw [List.map_map, List.length_map]
  have z := sum_few 2128 (l.map ((·.length) ∘ PyData.shown ∘ encB)) fun k hk => by
    obtain ⟨x, hx, rfl⟩ := List.mem_map.mp hk
    exact shown_B (h x hx).1 (h x hx).2
  rw [List.length_map] at z
  rw [sizeLine_eq]
  omega
theorem showable_R : ∀ g : List Str, PyData.showableAll (g.map .str) = true
  | [] => by simp [PyData.showableAll]
  | a :: g => by simp [PyData.showableAll, PyData.showable, showable_R g]
theorem showable_B : ∀ b : Bl, PyData.showableAll (b.map encR) = true
  | [] => by simp [PyData.showableAll]
  | a :: b => by simp [PyData.showableAll, PyData.showable, encR, showable_R a]; exact showable_B b
theorem showable_L : ∀ l : List Bl, PyData.showableAll (l.map encB) = true
  | [] => by simp [PyData.showableAll]
  | a :: l => by simp [PyData.showableAll, PyData.showable, encB, showable_B a]; exact showable_L l
theorem noDict_R : ∀ g : List Str, PyData.hasDictAll (g.map .str) = false
  | [] => by simp [PyData.hasDictAll]
  | a :: g => by simp [PyData.hasDictAll, PyData.hasDict, noDict_R g]
theorem noDict_B : ∀ b : Bl, PyData.hasDictAll (b.map encR) = false
  | [] => by simp [PyData.hasDictAll]
  | a :: b => by simp [PyData.hasDictAll, PyData.hasDict, encR, noDict_R a]; exact noDict_B b
theorem noDict_L : ∀ l : List Bl, PyData.hasDictAll (l.map encB) = false
  | [] => by simp [PyData.hasDictAll]
  | a :: l => by simp [PyData.hasDictAll, PyData.hasDict, encB, noDict_B a]; exact noDict_L l
theorem depthAll_L : ∀ l : List Bl, PyData.depthAll (l.map encB) ≤ 2
  | [] => by simp [PyData.depthAll]
  | b :: l => by
    have z := depthAll_L l
    have y := depth_B b
    simp only [List.map_cons, PyData.depthAll]
    omega
/-- repr of all blends -/
theorem repr_L {K : PySem.W.Frag} {H : Hp} {v : V} {l : List Bl} {Q : VK} (hv : Dp K H v (.list (l.map encB))) (ne : l ≠ []) (h : ∀ b ∈ l, (∀ g ∈ b, (∀ z ∈ g, Short z) ∧ g.length ≤ 5) ∧ b.length ≤ 5) (few : l.length ≤ 203) (q : Q (.str (PyData.list (l.map encB)).shown) H) : rReprD K [v] H Q := by
  refine .mk ⟨v, _, rfl, hv, ?_, ?_, ?_, ?_, shown_L h few, q⟩
  · cases l with
    | nil => exact absurd rfl ne
    | cons b l => rfl
  · simpa [PyData.showable] using showable_L l
  · simpa [PyData.hasDict] using noDict_L l
  · have := depthAll_L l
    simp only [PyData.depth]
    omega
end TW
set_option Elab.async false
set_option linter.all false
set_option maxRecDepth 100000
set_option maxHeartbeats 16000000
/-! the marks that are drawn -/
namespace TW
open PySem PySem.Spec PyProof.Rows L2 RZ StX
open Evl (Ex)
def poolA : List Str := ["a", "b", "c", "d", "e"]
def poolB : List Str := ["x", "xx", "xxx", "y", "z"]
def poolC : List Str := ["+", "-", "abcdefgh", "m", "q"]
def letters5 : List Str := ["a", "b", "c", "d", "e"]
structure PoolOk (l : List Str) : Prop where
  nd : l.Nodup
  ok : ∀ z ∈ l, z.length ≤ 1000 ∧ isHeard (.str z) = true ∧ z ≠ "" ∧ PyData.strOk z = true
  sh : ∀ z ∈ l, Short z
theorem pools {l : List Str} (h : l = poolA ∨ l = poolB ∨ l = poolC) : PoolOk l ∧ l.length = 5 := by
  rcases h with rfl | rfl | rfl
  · exact ⟨⟨by decide +kernel, by decide +kernel, by unfold Short; decide +kernel⟩, rfl⟩
  · exact ⟨⟨by decide +kernel, by decide +kernel, by unfold Short; decide +kernel⟩, rfl⟩
  · exact ⟨⟨by decide +kernel, by decide +kernel, by unfold Short; decide +kernel⟩, rfl⟩
theorem PoolOk.take {l : List Str} (h : PoolOk l) (n : Nat) : PoolOk (l.take n) := ⟨h.nd.sublist (List.take_sublist _ _), fun z hz => h.ok z (List.mem_of_mem_take hz), fun z hz => h.sh z (List.mem_of_mem_take hz)⟩
/-- drawn marks of sounds, with the marks S -/
structure MkOk (S ks : List Str) (m : Str → List Str) : Prop where
  nd : ks.Nodup
  ne : ks ≠ []
  few : ks.length ≤ 10
  snd : ∀ k ∈ ks, k.length ≤ 1000 ∧ isSound (.str k) = true
  one : ∀ k ∈ ks, 1 ≤ (m k).length
  six : ∀ k ∈ ks, (m k).length ≤ 6
  mnd : ∀ k ∈ ks, (m k).Nodup
  sub : ∀ k ∈ ks, ∀ z ∈ m k, z = "" ∨ z ∈ S
  all : ∀ z ∈ S, ∃ k ∈ ks, z ∈ m k
theorem letter_at : ∀ i, i < 5 → ∃ c, atI ("abcde" : Str).cps.toList ((i : Nat) : Int) = some c ∧ letters5[i]? = some (⟨#[c]⟩ : Str) ∧ letters5.idxOf (⟨#[c]⟩ : Str) = i
  | 0, _ => ⟨97, rfl, rfl, by decide +kernel⟩
  | 1, _ => ⟨98, rfl, rfl, by decide +kernel⟩
  | 2, _ => ⟨99, rfl, rfl, by decide +kernel⟩
  | 3, _ => ⟨100, rfl, rfl, by decide +kernel⟩
  | 4, _ => ⟨101, rfl, rfl, by decide +kernel⟩
  | n + 5, h => absurd h (by omega)
theorem letters_nd : letters5.Nodup := by decide +kernel
/-- either branch of a conditional, told alike -/
theorem ite_qB {c : Prop} [Decidable c] {A B S : VK → Prop} {Q : VK} (hA : c → ∀ Q, S Q → A Q) (hB : ¬ c → ∀ Q, S Q → B Q) (h : S Q) : if c then A Q else B Q := by
  by_cases q : c
  · rw [if_pos q]; exact hA q Q h
  · rw [if_neg q]; exact hB q Q h
/-- a sound's marks put anew -/
def addK (ks : List Str) (k : Str) : List Str := if k ∈ ks then ks else ks ++ [k]
theorem tells_any {K : PySem.W.Frag} {F : Hp} {kvs : List (Key × V)} {ks : List Str} {m : Str → List Str} {enc : List PyData → PyData} {k : Str} {z : V} {new : List Str} (h : Tells K F kvs ks m enc) (hz : Dp K F z (enc (new.map .str))) :
    Tells K F (putK kvs (Sum.inr k) z) (addK ks k) (fun x => if x = k then new else m x) enc := by
  have kk : (kvs.any fun kv => decide (kv.1 = (Sum.inr k : Key))) = decide (k ∈ ks) := by
    rw [Bool.eq_iff_iff, List.any_eq_true, decide_eq_true_eq]
    constructor
    · rintro ⟨kv, h1, h2⟩
      have h3 : kv.1 ∈ ks.map Sum.inr := by rw [← h.ke]; exact List.mem_map_of_mem h1
      obtain ⟨x, hx, e⟩ := List.mem_map.mp h3
      have h4 := of_decide_eq_true h2
      rw [← e] at h4
      exact Sum.inr.inj h4 ▸ hx
    · intro hk
      have h3 : (Sum.inr k : Key) ∈ kvs.map (·.1) := by rw [h.ke]; exact List.mem_map_of_mem hk
      obtain ⟨kv, h1, h2⟩ := List.mem_map.mp h3
      exact ⟨kv, h1, decide_eq_true h2⟩
  refine ⟨?_, fun x hx => ?_⟩
  · unfold putK addK
    rw [kk]
    by_cases c : k ∈ ks
    · rw [if_pos (decide_eq_true c), if_pos c, ← h.ke, List.map_map]
      refine List.map_congr_left fun kv _ => ?_
      show (if kv.1 = Sum.inr k then (kv.1, z) else kv).1 = kv.1
      split <;> rfl
    · rw [if_neg (by rw [decide_eq_false c]; decide), if_neg c, List.map_append, h.ke, List.map_append]
      rfl
  · rw [valV_put]
    by_cases e : x = k
    · subst e
      exact ⟨z, by rw [if_pos rfl], by rw [if_pos rfl]; exact hz⟩
    · rw [if_neg (fun q => e (Sum.inr.inj q)), if_neg e]
      refine h.va x ?_
      unfold addK at hx
      split at hx
      · exact hx
      · rcases List.mem_append.mp hx with hx | hx
        · exact hx
        · exact absurd (List.mem_singleton.mp hx) e
theorem PenAt.ex' {K : PySem.W.Frag} {F F' H : Hp} {p : Addr} {t : Int} (h : PenAt K F H p t) (e : Ex F F') (n : F' p = none) : PenAt K F' H p t := by
  obtain ⟨f, c, r, cells, h1, h2, h3⟩ := h
  exact ⟨n, c, r, cells, h1, h2.ex e, h3⟩
/-- the first marks -/
def m0 (S : List Str) (k : Str) : List Str := if S = [] then [""] else [S.getD (letters5.idxOf k) ""]
def all7 : List Str := ["a", "b", "c", "d", "e", "f", "z"]
/-- while they are drawn -/
structure MkI (S ks : List Str) (m : Str → List Str) : Prop where
  nd : ks.Nodup
  ne : ks ≠ []
  key : ∀ k ∈ ks, k ∈ all7
  mnd : ∀ k ∈ ks, (m k).Nodup
  sub : ∀ k ∈ ks, ∀ z ∈ m k, z = "" ∨ z ∈ S
  all : ∀ z ∈ S, ∃ k ∈ ks, z ∈ m k
theorem mkI_0 {S : List Str} {n : Nat} (l : S.length ≤ n) (l5 : n ≤ 5) (n1 : 1 ≤ n) : MkI S (letters5.take n) (m0 S) where
  nd := letters_nd.sublist (List.take_sublist _ _)
  ne := fun e => by
    have z := congrArg List.length e
    rw [List.length_take] at z
    have z2 : min n 5 = 0 := z
    omega
  key := fun k hk => (by decide +kernel : ∀ k ∈ letters5, k ∈ all7) k (List.mem_of_mem_take hk)
  mnd := fun k _ => by unfold m0; split <;> simp
  sub := fun k _ z hz => by
    unfold m0 at hz
    split at hz
    · exact .inl (by simpa using hz)
    · rw [List.mem_singleton.mp hz, List.getD_eq_getElem?_getD]
      cases e : S[letters5.idxOf k]? with
      | none => exact .inl rfl
      | some y => exact .inr (List.mem_of_getElem? e)
  all := fun z hz => by
    obtain ⟨j, hj, rfl⟩ := List.mem_iff_getElem.mp hz
    obtain ⟨c, _, h2, h3⟩ := letter_at j (by omega)
    refine ⟨⟨#[c]⟩, ?_, ?_⟩
    · have z : (letters5.take n)[j]? = some (⟨#[c]⟩ : Str) := by rw [List.getElem?_take, if_pos (by omega)]; exact h2
      exact List.mem_of_getElem? z
    · unfold m0
      rw [if_neg (fun e => by rw [e] at hj; simp at hj), h3, List.getD_eq_getElem?_getD, List.getElem?_eq_getElem hj]
      exact List.mem_singleton.mpr rfl
theorem MkI.put {S ks : List Str} {m : Str → List Str} {k : Str} {new : List Str} (h : MkI S ks m) (hk : k ∈ all7) (nS : (("" : Str) :: S).Nodup) (sub : new.Sublist (("" : Str) :: S)) (old : ∀ z ∈ (("" : Str) :: S), z ∈ (if k ∈ ks then m k else []) → z ∈ new) : MkI S (addK ks k) (fun x => if x = k then new else m x) := by
  have mem : ∀ x, x ∈ addK ks k ↔ x ∈ ks ∨ x = k := fun x => by
    unfold addK
    split
    · rename_i c
      exact ⟨.inl, fun q => q.elim id fun e => e ▸ c⟩
    · simp
  refine ⟨?_, fun e => ?_, fun x hx => ?_, fun x hx => ?_, fun x hx z hz => ?_, fun z hz => ?_⟩
  · unfold addK
    split
    · exact h.nd
    · rename_i c
      exact List.nodup_append.mpr ⟨h.nd, by simp, fun a ha b hb e => c (by rw [List.mem_singleton.mp hb] at e; exact e ▸ ha)⟩
  · have z := (mem k).mpr (.inr rfl)
    rw [e] at z
    exact nomatch z
  · rcases (mem x).mp hx with hx | rfl
    · exact h.key x hx
    · exact hk
  · by_cases e : x = k
    · simp only [e, if_true]
      exact nS.sublist sub
    · simp only [e, if_false]
      exact h.mnd x (((mem x).mp hx).resolve_right e)
  · by_cases e : x = k
    · simp only [e, if_true] at hz
      exact List.mem_cons.mp (sub.subset hz)
    · simp only [e, if_false] at hz
      exact h.sub x (((mem x).mp hx).resolve_right e) z hz
  · obtain ⟨k', hk', hz'⟩ := h.all z hz
    refine ⟨k', (mem k').mpr (.inl hk'), ?_⟩
    by_cases e : k' = k
    · subst e
      simp only [if_true]
      exact old z (List.mem_cons_of_mem _ hz) (by rw [if_pos hk']; exact hz')
    · simp only [e, if_false]
      exact hz'
theorem MkI.fin {S ks : List Str} {m : Str → List Str} (h : MkI S ks m) (few : S.length ≤ 5) (nS : S.Nodup) : MkOk S ks (fun k => if m k = [] then [""] else m k) where
  nd := h.nd
  ne := h.ne
  few := Nat.le_trans (nodup_le h.nd h.key) (by decide)
  snd := fun k hk => (by decide +kernel : ∀ k ∈ all7, k.length ≤ 1000 ∧ isSound (.str k) = true) k (h.key k hk)
  one := fun k hk => by
    split
    · exact Nat.le_refl 1
    · rename_i c
      exact List.length_pos_iff.mpr c
  six := fun k hk => by
    split
    · decide
    · have z := nodup_le (h.mnd k hk) (m := ("" : Str) :: S) fun z hz => List.mem_cons.mpr (h.sub k hk z hz)
      rw [List.length_cons] at z
      omega
  mnd := fun k hk => by
    split
    · simp
    · exact h.mnd k hk
  sub := fun k hk z hz => by
    split at hz
    · exact .inl (by simpa using hz)
    · exact h.sub k hk z hz
  all := fun z hz => by
    obtain ⟨k, hk, hz'⟩ := h.all z hz
    refine ⟨k, hk, ?_⟩
    rw [if_neg (fun e => by rw [e] at hz'; exact nomatch hz')]
    exact hz'
def spLMk (K : PySem.W.Frag) : Sp := fun vs H Q _ => ∃ (F : Hp) (p : Addr) (many : Nat) (t : Int), vs = [.ref p, .int many] ∧ Sees F H ∧ PenAt K F H p t ∧ t ≤ 900000 ∧ many ≤ 5 ∧
  ∀ (D : Addr) (kvs : List (Key × V)) (S ks : List Str) (m : Str → List Str) (t' : Int) F' H', PoolOk S → S.length = many → MkOk S ks m → F' D = some (.dK kvs) → H' D = some (.dK kvs) → Tells K F' kvs ks m .list → t ≤ t' → t' ≤ t + 40 → Gr [p] F H F' H' → PenAt K F' H' p t' → Q (.ref D) H'
section
variable {P : Program} {w : World} {K : PySem.W.Frag} {mg : Str → Option Value} {base : Heap}
theorem ok_law_marks {f : Addr} {fd : FuncData} (F : Fun K "_law_marks" "_law_marks" s__law_marks f fd) (T : Txt mg) (C__law_draw : Cal P w K mg base "_law_draw" 1 ["pen", "many"] [] (spDraw K)) (C__law_pick : Cal P w K mg base "_law_pick" 2 ["pen", "some"] [] (spPick K)) : FnOk P w K mg base CX0 3 f fd ["pen", "many"] (spLMk K) := by
  refine F.ok sc__law_marks (fun vs H Q E h => ?_) (fun cdv A outer s H vs Q E hr h => ?_)
  · obtain ⟨F0, p, many, t, rfl, _⟩ := h
    rfl
  · obtain ⟨F0, p, many, t, rfl, fs, hp, ht, m5, q⟩ := h
    have hu := hu_of hr
    have hu64 := hr.units
    refine ⟨_, (pss_cons (ps_asg (pe_tup (pa_cons (pe_slice (sl_LA K) (pe_cal C__law_pick (hr.mono (by decide)) (pa_cons (pv 0) (pa_cons (pe_lst (pa_cons (pe_lst (pa_cons pe_str (pa_cons pe_str (pa_cons pe_str (pa_cons pe_str (pa_cons pe_str pa_nil)))))) (pa_cons (pe_lst (pa_cons pe_str (pa_cons pe_str (pa_cons pe_str (pa_cons pe_str (pa_cons pe_str pa_nil)))))) (pa_cons (pe_lst (pa_cons pe_str (pa_cons pe_str (pa_cons pe_str (pa_cons pe_str (pa_cons pe_str pa_nil)))))) pa_nil)))) pa_nil))) po_none (po_some (pv 1))) (pa_cons pe_dnewK pa_nil))) (zpg (n := 2) K (pgs_cons (zg (i := 2) sc__law_marks.nd) (pgs_cons (zg (i := 3) sc__law_marks.nd) pgs_nil))))
      (pss_cons (ps_for PassesOwn.never rfl (pi_range1 rfl T.range (pa_cons (pe_callB (call_max2 rfl) (by rfl) T.max bt_max (pa_cons pe_int (pa_cons (pv 1) pa_nil))) pa_nil)) (zg (i := 4) sc__law_marks.nd)
        (pss_one (ps_dput hu (pv 3) (pe_ix ix_str pe_str (pv 4) (fun _ _ => rfl)) (pe_ifExp (pt_cmpR op_gt (pv 1) pe_int (nomark _)) (pe_lst (pa_cons (pe_ix (ix_LT K) (pv 2) (pv 4) (fun _ _ => rfl)) pa_nil)) (pe_lst (pa_cons pe_str pa_nil))) rfl)))
      (pss_cons (ps_for PassesOwn.never rfl (pi_range1 rfl T.range (pa_cons (pe_cal C__law_draw (hr.mono (by decide)) (pa_cons (pv 0) (pa_cons pe_int pa_nil))) pa_nil)) (zg (i := 5) sc__law_marks.nd)
        (pss_cons (zs (i := 6) sc__law_marks.nd (pe_cal C__law_pick (hr.mono (by decide)) (pa_cons (pv 0) (pa_cons (pe_lst (pa_cons pe_str (pa_cons pe_str (pa_cons pe_str pa_nil)))) pa_nil))))
        (pss_one (ps_dput hu (pv 3) (pv 6) (pe_lc (own := [("mark", 7)]) rfl sc__law_marks.nd (zseq K (pe_op op_cat (pe_lst (pa_cons pe_str pa_nil)) (pv 2))) (blkOk_by (N := sc__law_marksN) (sc := defScope s__law_marks) (by decide +kernel)) (fun _ _ _ _ _ => (zg (i := 7) sc__law_marks.nd)) (fun _ _ _ _ _ => (pts_one (PW.pt (pw_or (pt_cmpR (op_inK K) (pv 7) (pe_dget2 hu (pv 3) (pv 6) (pe_lst pa_nil) (m2_of rfl)) rfl) (pw_or1 (pt_cmpR op_eq (pe_cal C__law_draw (hr.mono (by decide)) (pa_cons (pv 0) (pa_cons pe_int pa_nil))) pe_int (nomark _))))))) (fun _ _ _ _ _ => (pv 7))) rfl))))
      (pss_one (ps_ret (pe_callTy (call_dictP rfl) (by rfl) T.dict bt_dict (pa_cons (pe_lock (pe_lc (own := [("sound", 6)]) rfl sc__law_marks.nd (pi_keys (pv 3)) (blkOk_by (N := sc__law_marksN) (sc := defScope s__law_marks) (by decide +kernel)) (fun _ _ _ _ _ => (zg (i := 6) sc__law_marks.nd)) (fun _ _ _ _ _ => pts_nil) (fun _ _ _ _ _ => (pe_tup (pa_cons (pv 6) (pa_cons (pe_ifExp (pt_cmpR (op_neDD K hu64) (pe_dget hu (pv 3) (pv 6) (fun _ _ => rfl)) (pe_lst pa_nil) (nomark _)) (pe_dget hu (pv 3) (pv 6) (fun _ _ => rfl)) (pe_lst (pa_cons pe_str pa_nil))) pa_nil)))))) pa_nil))))))), ?_⟩
    have lz : 100000 < sizeLine := by rw [sizeLine_eq]; decide
    obtain ⟨op, hpo⟩ := hp.at
    refine ⟨_, rfl, by show 5 ≤ sizeLine; omega, fun a1 h1 => ⟨by show 5 ≤ sizeLine; omega, fun a2 h2 => ⟨by show 5 ≤ sizeLine; omega, fun a3 h3 => ⟨by show 3 ≤ sizeLine; omega, fun a4 h4 => ?_⟩⟩⟩⟩
    have g1 := (Gr.refl (B := []) fs).new (o := .lst [.str "a", .str "b", .str "c", .str "d", .str "e"]) h1
    have d1 : Dp K (upd F0 a1 (.lst [.str "a", .str "b", .str "c", .str "d", .str "e"])) (.ref a1) (.list (poolA.map .str)) := .lst (.inl (.inl upd_same)) (dps_str.mpr rfl)
    generalize upd F0 a1 (.lst [.str "a", .str "b", .str "c", .str "d", .str "e"]) = F1 at g1 d1
    generalize upd H a1 (.lst [.str "a", .str "b", .str "c", .str "d", .str "e"]) = H1 at g1 h2 h3 h4 ⊢
    have g2 := (Gr.refl (B := []) g1.fh).new (o := .lst [.str "x", .str "xx", .str "xxx", .str "y", .str "z"]) h2
    have d2 : Dp K (upd F1 a2 (.lst [.str "x", .str "xx", .str "xxx", .str "y", .str "z"])) (.ref a2) (.list (poolB.map .str)) := .lst (.inl (.inl upd_same)) (dps_str.mpr rfl)
    have d12 := d1.ex g2.ff
    generalize upd F1 a2 (.lst [.str "x", .str "xx", .str "xxx", .str "y", .str "z"]) = F2 at g2 d2 d12
    generalize upd H1 a2 (.lst [.str "x", .str "xx", .str "xxx", .str "y", .str "z"]) = H2 at g2 h3 h4 ⊢
    have g3 := (Gr.refl (B := []) g2.fh).new (o := .lst [.str "+", .str "-", .str "abcdefgh", .str "m", .str "q"]) h3
    have d3 : Dp K (upd F2 a3 (.lst [.str "+", .str "-", .str "abcdefgh", .str "m", .str "q"])) (.ref a3) (.list (poolC.map .str)) := .lst (.inl (.inl upd_same)) (dps_str.mpr rfl)
    have d13 := d12.ex g3.ff
    have d23 := d2.ex g3.ff
    generalize upd F2 a3 (.lst [.str "+", .str "-", .str "abcdefgh", .str "m", .str "q"]) = F3 at g3 d3 d13 d23
    generalize upd H2 a3 (.lst [.str "+", .str "-", .str "abcdefgh", .str "m", .str "q"]) = H3 at g3 h4 ⊢
    have g4 := (Gr.refl (B := []) g3.fh).new (o := .lst [.ref a1, .ref a2, .ref a3]) h4
    have d4 : Dp K (upd F3 a4 (.lst [.ref a1, .ref a2, .ref a3])) (.ref a4) (.list [.list (poolA.map .str), .list (poolB.map .str), .list (poolC.map .str)]) := .lst (.inl (.inl upd_same)) (.cons (d13.ex g4.ff) (.cons (d23.ex g4.ff) (.cons (d3.ex g4.ff) .nil)))
    have g04 := ((g1.trans g2).trans g3).trans g4
    generalize upd F3 a4 (.lst [.ref a1, .ref a2, .ref a3]) = F4 at g4 d4 g04
    generalize upd H3 a4 (.lst [.ref a1, .ref a2, .ref a3]) = H4 at g4 g04 ⊢
    clear g1 g2 g3 g4 d1 d2 d12 d3 d13 d23 h1 h2 h3 h4
    have hp4 := hp.gr g04 (by simp)
    refine ⟨F4, p, .ref a4, _, _, t, rfl, g04.fh, hp4, by omega, d4, .inl rfl, by simp, by simp, fun r e t5 F5 H5 em hr5 u1 u2 g5 hp5 => ?_⟩
    obtain ⟨l, rfl, hl⟩ : ∃ l : List Str, e = .list (l.map .str) ∧ (l = poolA ∨ l = poolB ∨ l = poolC) := by
      simp only [List.mem_cons, List.not_mem_nil, or_false] at em
      rcases em with rfl | rfl | rfl
      · exact ⟨_, rfl, .inl rfl⟩
      · exact ⟨_, rfl, .inr (.inl rfl)⟩
      · exact ⟨_, rfl, .inr (.inr rfl)⟩
    obtain ⟨pok, pl⟩ := pools hl
    refine ⟨_, rfl, _, rfl, .mk (.inl (slL_dp hr5 g5.fh fun Ls ys F6 H6 g6' hL5 fL6 hL6 hys => ?_))⟩
    rw [cutD_to, ← List.map_take, dps_str] at hys
    subst hys
    have sok := pok.take many
    have sl : (l.take many).length = many := by rw [List.length_take]; omega
    generalize l.take many = S at sok sl hL6
    have g6 := g6'.done hL5 fL6 hL6
    have fS6 : upd F6 Ls (.lst (S.map V.str)) Ls = some (.lst (S.map V.str)) := upd_same
    generalize upd F6 Ls (.lst (S.map V.str)) = F6 at g6 fS6
    have g06 : Gr [p] F0 H F6 H6 := (g04.mono (B' := [p]) (fun b hb => absurd hb (by simp))).trans (g5.trans g6 (fun b hb => absurd hb (by simp))) fun b hb => .inl hb
    have hp6 := hp5.gr g6 (by simp)
    clear g04 g5 g6 hp4 hp5 d4 hr5 em hl pok pl g6' fL6
    refine fun D hD => ⟨by show 2 ≤ sizeLine; omega, fun tt htt => ?_⟩
    have npD : p ≠ D := fun e => by obtain ⟨_, z⟩ := hp6.at; rw [e, hD] at z; cases z
    have nDt : D ≠ tt := ne_of_none (upd_same : upd H6 D (.dK []) D = _) htt
    have npt : p ≠ tt := fun e => by obtain ⟨_, z⟩ := hp6.at; rw [e] at z; rw [upd_ne (Ne.symm nDt)] at htt; rw [htt] at z; cases z
    have g7 := (g06.newM (o := .dK []) hD).new (o := .tup [.ref Ls, .ref D]) htt
    have hp7 : PenAt K (upd F6 tt (.tup [.ref Ls, .ref D])) (upd (upd H6 D (.dK [])) tt (.tup [.ref Ls, .ref D])) p t5 := by
      have z := hp6.upd' (o := .dK []) npD
      exact z.gr ((Gr.refl (B := []) (g06.newM (o := .dK []) hD).fh).new (o := .tup [.ref Ls, .ref D]) htt) (by simp)
    have hS7 : upd F6 tt (.tup [.ref Ls, .ref D]) Ls = some (.lst (S.map V.str)) := (Ex.new ((g06.newM (o := .dK []) hD).fh.dm htt)) _ _ fS6
    have fD7 : upd F6 tt (.tup [.ref Ls, .ref D]) D = none := by rw [upd_ne nDt]; exact g06.fh.dm hD
    have hD7 : upd (upd H6 D (.dK [])) tt (.tup [.ref Ls, .ref D]) D = some (.dK []) := by rw [upd_ne nDt]; exact upd_same
    have tt7 : SqT K (upd (upd H6 D (.dK [])) tt (.tup [.ref Ls, .ref D])) tt [.ref Ls, .ref D] := .inl (.inl upd_same)
    have hD0 : H D = none := g06.dm _ hD
    generalize upd F6 tt (.tup [.ref Ls, .ref D]) = F7 at g7 hp7 hS7 fD7
    generalize upd (upd H6 D (.dK [])) tt (.tup [.ref Ls, .ref D]) = H7 at g7 hp7 hD7 tt7 ⊢
    clear g06 hp6 hD htt npt nDt fS6 hL6 hL5
    refine ⟨tt, _, rfl, tt7, rfl, _, _, rfl, _, _, rfl, rfl, ?_⟩
    dsimp only [List.set_cons_zero, List.set_cons_succ]
    obtain ⟨n0, hn0⟩ : ∃ n0, n0 = max 1 many := ⟨_, rfl⟩
    have eM : (if (many : Int) > 1 then (many : Int) else 1) = (n0 : Int) := by rw [hn0]; split <;> omega
    refine ⟨_, rfl, _, _, rfl, _, rfl, by rw [eM]; omega, by rw [eM]; omega, ?_⟩
    rw [eM, show ((n0 : Int)).toNat = n0 from by omega]
    have n05 : n0 ≤ 5 := by omega
    have ml : (letters5.take n0).length = n0 := by rw [List.length_take]; show min n0 5 = n0; omega
    refine for_it walk_range (fun i σ' H' => ∃ (o4 : Option V) (F' : Hp) (kvs : List (Key × V)), σ' = [some (.ref p), some (.int many), some (.ref Ls), some (.ref D), o4, none, none, none] ∧ Gr [p] F0 H F' H' ∧ F' D = none ∧ H' D = some (.dK kvs) ∧ F' Ls = some (.lst (S.map V.str)) ∧ PenAt K F' H' p t5 ∧ Tells K F' kvs (letters5.take i) (m0 S) .list)
      ⟨none, F7, [], rfl, g7, fD7, hD7, hS7, hp7, rfl, by simp⟩ (fun _ _ _ _ _ => True.intro) ?_ ?_
    · rintro i y σ' H' H'' hi ⟨o4, F', kvs, rfl, g, fD, hDk, hS, hpn, tl⟩ ⟨rfl, rfl⟩
      obtain ⟨c, at_c, at_k, at_i⟩ := letter_at i (by omega)
      dsimp only [List.set_cons_zero, List.set_cons_succ]
      rw [show (0 : Int) + (i : Int) = (i : Int) from Int.zero_add _]
      refine ⟨_, rfl, _, _, rfl, rfl, _, rfl, ite_qB (A := fun Q => tLst (tCons (tOp (rIxD K) (tVar 2) (tVar 4)) tNil) _ _ Q) (B := fun Q => tLst (tCons (tC (.str "")) tNil) _ _ Q) (S := fun Q => ∀ l F2 H2, Gr [] F' H'' F2 H2 → Dp K F2 (.ref l) (.list ((m0 S ⟨#[c]⟩).map .str)) → Q (.ref l) H2) (fun cc Q h => ?_) (fun cc Q h => ?_) fun l F2 H2 g2 hl => ?_⟩
      · have pos : 0 < many := by have z := of_decide_eq_true cc; omega
        have ne : S ≠ [] := fun e => by rw [e] at sl; simp at sl; omega
        have hSi : (S.map PyData.str)[i]? = some (.str (S.getD i "")) := by
          have lt : i < S.length := by rw [sl]; omega
          rw [List.getElem?_map, List.getElem?_eq_getElem lt, List.getD_eq_getElem?_getD, List.getElem?_eq_getElem lt]
          rfl
        refine ⟨_, rfl, _, rfl, ix_dp (show Dp K F' (.ref Ls) (.list (S.map .str)) from .lst (.inl (.inl hS)) (dps_str.mpr rfl)) (.inl rfl) g.fh (e := .str (S.getD i "")) (atI_nat hSi) fun r hr => ⟨by show 1 ≤ sizeLine; omega, fun l hl => ?_⟩⟩
        rw [dp_str] at hr
        subst hr
        refine h l _ _ ((Gr.refl (B := []) g.fh).new (o := .lst [.str (S.getD i "")]) hl) (.lst (.inl (.inl upd_same)) ?_)
        unfold m0
        rw [if_neg ne, at_i]
        exact .cons (.str _) .nil
      · have zero : S = [] := List.length_eq_zero_iff.mp (by rw [sl]; simp at cc; exact cc)
        refine ⟨by show 1 ≤ sizeLine; omega, fun l hl => ?_⟩
        refine h l _ _ ((Gr.refl (B := []) g.fh).new (o := .lst [.str ""]) hl) (.lst (.inl (.inl upd_same)) ?_)
        unfold m0
        rw [if_pos zero]
        exact .cons (.str _) .nil
      · have lk := tells_len tl
        rw [List.length_take] at lk
        have hD2 := g2.at hDk
        refine ⟨_, rfl, _, rfl, _, _, _, rfl, rfl, by show 5 ≤ sizeLine; omega, at_c, D, _, rfl, DPut.k (k := Sum.inr ⟨#[c]⟩) hD2 (by omega), ?_⟩
        have fD2 := g2.none' fD (by rw [hDk]; exact fun z => nomatch z)
        have gg : Gr [p] F0 H F2 H2 := g.trans g2 fun b hb => absurd hb (by simp)
        exact ⟨_, F2, _, rfl, gg.mut fD2 (.inr hD0), fD2, upd_same, g2.ff _ _ hS, (hpn.gr g2 (by simp)).upd' npD, tells_put (tl.ex g2.ff) letters_nd at_k hl⟩
    · rintro σ' H8 ⟨o4, F8, kvs, rfl, g8, fD8, hD8, hS8, hp8, tl8⟩
      refine ⟨_, rfl, F8, p, 4, t5, rfl, g8.fh, hp8, by omega, by decide, by decide, fun d t6 F9 H9 d0 d1 w1 w2 g9 hp9 => ⟨_, rfl, by omega, by omega, ?_⟩⟩
      have I0 := mkI_0 (S := S) (n := n0) (by omega) n05 (by omega)
      have g09 : Gr [p] F0 H F9 H9 := g8.trans g9 fun b hb => .inl hb
      have hD9 := g9.hh D _ (by simpa using Ne.symm npD) hD8
      have fD9 := g9.none' fD8 (by rw [hD8]; exact fun z => nomatch z)
      have hS9 := g9.ff _ _ hS8
      have tl9 := tl8.ex g9.ff
      have nS : (("" : Str) :: S).Nodup := List.nodup_cons.mpr ⟨fun h => (sok.ok _ h).2.2.1 rfl, sok.nd⟩
      refine for_it walk_range (fun i σ' H' => ∃ (o4 o5 o6 : Option V) (F' : Hp) (kvs : List (Key × V)) (ks : List Str) (m : Str → List Str) (t' : Int), σ' = [some (.ref p), some (.int many), some (.ref Ls), some (.ref D), o4, o5, o6, none] ∧ Gr [p] F0 H F' H' ∧ F' D = none ∧ H' D = some (.dK kvs) ∧ F' Ls = some (.lst (S.map V.str)) ∧ PenAt K F' H' p t' ∧ t6 ≤ t' ∧ t' ≤ t6 + 7 * i ∧ Tells K F' kvs ks m .list ∧ MkI S ks m)
        ⟨o4, none, none, F9, kvs, _, _, t6, rfl, g09, fD9, hD9, hS9, hp9, Int.le_refl _, by omega, tl9, I0⟩ (fun _ _ _ _ _ => True.intro) ?_ ?_
      · rintro i y σ' H' H'' hi ⟨o4, o5, o6, F', kvs, ks, m, t', rfl, g, fD, hDk, hS, hpn, v1, v2, tl, I⟩ ⟨rfl, rfl⟩
        dsimp only [List.set_cons_zero, List.set_cons_succ]
        have hi3 : i < 3 := by omega
        refine ⟨_, rfl, by show 3 ≤ sizeLine; omega, fun a1 h1 => ?_⟩
        have gA := (Gr.refl (B := []) g.fh).new (o := .lst [.str "a", .str "f", .str "z"]) h1
        have dA : Dp K (upd F' a1 (.lst [.str "a", .str "f", .str "z"])) (.ref a1) (.list ((["a", "f", "z"] : List Str).map .str)) := .lst (.inl (.inl upd_same)) (dps_str.mpr rfl)
        generalize upd F' a1 (.lst [.str "a", .str "f", .str "z"]) = FA at gA dA
        generalize upd H'' a1 (.lst [.str "a", .str "f", .str "z"]) = HA at gA ⊢
        refine ⟨FA, p, .ref a1, _, _, t', rfl, gA.fh, hpn.gr gA (by simp), by omega, dA, .inl rfl, by simp, by simp, fun r e t7 FB HB em hr u3 u4 gB hpB => ?_⟩
        obtain ⟨k, rfl, hk⟩ : ∃ k : Str, e = .str k ∧ k ∈ all7 := by
          obtain ⟨k, hk, rfl⟩ := List.mem_map.mp em
          exact ⟨k, rfl, (by decide +kernel : ∀ k ∈ (["a", "f", "z"] : List Str), k ∈ all7) k hk⟩
        rw [dp_str] at hr
        subst hr
        have g2 : Gr [p] F0 H FB HB := (g.trans gA fun b hb => absurd hb (by simp)).trans gB fun b hb => .inl hb
        have hDB := gB.hh D _ (by simpa using Ne.symm npD) (gA.at hDk)
        have fDB := gB.none' (gA.none' fD (by rw [hDk]; exact fun z => nomatch z)) (by rw [gA.at hDk]; exact fun z => nomatch z)
        have hSB := gB.ff _ _ (gA.ff _ _ hS)
        have tlB := (tl.ex gA.ff).ex gB.ff
        clear gA dA gB em h1
        dsimp only [List.set_cons_zero, List.set_cons_succ]
        refine ⟨by show 1 ≤ sizeLine; omega, fun a2 h2 => ⟨_, rfl, a2, Ls, [.str ""], S.map V.str, rfl, rfl, upd_same, ?_, by simp; omega, fun a3 h3 => ?_⟩⟩
        · have z := sees_L g2.fh hSB
          rw [upd_ne (ne_of_none z h2)]
          exact z
        have gC := ((Gr.refl (B := []) g2.fh).newM (o := .lst [.str ""]) h2).new (o := .lst ([.str ""] ++ S.map V.str)) h3
        have dC : Dp K (upd FB a3 (.lst ([.str ""] ++ S.map V.str))) (.ref a3) (.list (((("" : Str) :: S)).map .str)) := .lst (.inl (.inl upd_same)) (dps_str.mpr rfl)
        generalize upd FB a3 (.lst ([.str ""] ++ S.map V.str)) = FC at gC dC
        generalize upd (upd HB a2 (.lst [.str ""])) a3 (.lst ([.str ""] ++ S.map V.str)) = HC at gC ⊢
        have hDC := gC.at hDB
        have fDC := gC.none' fDB (by rw [hDB]; exact fun z => nomatch z)
        have hSC := gC.ff _ _ hSB
        have tlC := tlB.ex gC.ff
        have hpC := hpB.gr gC (by simp)
        have g3 : Gr [p] F0 H FC HC := g2.trans gC fun b hb => absurd hb (by simp)
        clear gC h2 h3 g2
        obtain ⟨oC, hoC⟩ := hpC.at
        refine seq_walk dC (.inl rfl) g3.fh fun J xs G w1 hG hxs hlen E hE => ?_
        rw [hlen, List.length_map] at w1
        have lS : ((("" : Str) :: S)).length ≤ 6 := by rw [List.length_cons]; omega
        refine lc_stQ (B := [p]) w1 g3.fh (fun b hb => by rw [List.mem_singleton.mp hb, hoC]; exact fun z => nomatch z) (fun j acc F' H' => ∃ t' es, PenAt K F' H' p t' ∧ t7 ≤ t' ∧ t' ≤ t7 + j ∧ acc = es.map V.str ∧ es.Sublist ((("" : Str) :: S).take j) ∧ ∀ z ∈ (("" : Str) :: S).take j, z ∈ (if k ∈ ks then m k else []) → z ∈ es)
          (fun j acc F' H' E o ⟨t', es, q1, q2⟩ hEn => ⟨t', es, q1.upd' (ne_of_none hoC hEn), q2⟩) (fun j acc F' H' _ gr _ => hG H' fun a o e => gr.fh a o (gr.ff a o e)) ⟨t7, [], hpC, Int.le_refl _, by omega, rfl, by simp, by simp⟩ (by omega) (fun j acc x F4 H4 H5 hj hl gr ⟨t4, es, q1, q2, q3, q4, q5, q6⟩ yy => ?_) hE fun acc F4 H4 gr fE hEc ⟨t4, es, q1, q2, q3, q4, q5, q6⟩ => ?_
        · obtain ⟨rfl, hxj⟩ := yy
          obtain ⟨dd, e3, e4⟩ := hxs.get hxj
          rw [List.getElem?_map] at e3
          obtain ⟨mk, hmk, rfl⟩ := Option.map_eq_some_iff.mp e3
          rw [dp_str] at e4
          subst e4
          have tm : ((("" : Str) :: S)).take (j + 1) = ((("" : Str) :: S)).take j ++ [mk] := by rw [List.take_add_one, hmk]; rfl
          have hD4 := gr.hh D _ (by simpa using Ne.symm npD) hDC
          refine ⟨F4, Gr.refl gr.fh, fun Yes No n0 n1 => ⟨rfl, ?_⟩⟩
          refine ⟨_, rfl, _, rfl, D, rfl, .inl ⟨kvs, .inl hD4⟩, _, rfl, Nat.zero_le _, fun l0 hl0 => ?_⟩
          have g5 := (Gr.refl (B := []) gr.fh).new (o := .lst []) hl0
          have dl0 : Dp K (upd F4 l0 (.lst [])) (.ref l0) (.list (([] : List Str).map .str)) := .lst (.inl (.inl upd_same)) .nil
          have hD5 := g5.at hD4
          have q15 := q1.gr g5 (by simp)
          have tl5 := (tlC.ex gr.ff).ex g5.ff
          generalize upd F4 l0 (.lst []) = F5 at g5 dl0 q15 tl5
          generalize upd H5 l0 (.lst []) = H6 at g5 hD5 q15 ⊢
          have gB5 : Gr [p] F4 H5 F5 H6 := g5.mono fun b hb => absurd hb (by simp)
          obtain ⟨v', e5, d5⟩ : ∃ v', (valV kvs (Sum.inr k)).getD (.ref l0) = v' ∧ Dp K F5 v' (.list ((if k ∈ ks then m k else []).map .str)) := by
            by_cases c : k ∈ ks
            · obtain ⟨u, y1, y2⟩ := tl5.va k c
              rw [if_pos c]
              exact ⟨u, by rw [y1]; rfl, y2⟩
            · have vn : valV kvs (Sum.inr k) = none := by
                cases e : valV kvs (Sum.inr k) with
                | none => rfl
                | some u =>
                  have z := valV_in e
                  rw [tl5.ke, List.mem_map] at z
                  obtain ⟨y, y1, y2⟩ := z
                  cases y2
                  exact absurd y1 c
              rw [if_neg c, vn]
              exact ⟨_, rfl, dl0⟩
          refine ⟨_, .inl ⟨kvs, Sum.inr k, .inl hD5, rfl, rfl⟩, ?_⟩
          rw [e5]
          refine in_S d5 (.inl rfl) g5.fh ⟨_, by rw [if_neg (by decide)], ?_⟩
          have yes : ∀ t9 F9 H9, Gr [p] F4 H5 F9 H9 → PenAt K F9 H9 p t9 → t4 ≤ t9 → t9 ≤ t4 + 1 → Yes (.str mk) H9 := fun t9 F9 H9 g9 p9 z1 z2 => n1 _ _ _ g9 ⟨t9, es ++ [mk], p9, by omega, by omega, by rw [q4, List.map_append]; rfl, by rw [tm]; exact List.Sublist.append q5 (List.Sublist.refl _), fun z hz ho => by
            rw [tm] at hz
            rcases List.mem_append.mp hz with hz | hz
            · exact List.mem_append_left _ (q6 z hz ho)
            · exact List.mem_append_right _ hz⟩
          by_cases c : (if k ∈ ks then m k else []).contains mk = true
          · exact iteYes c (iteT ⟨_, rfl, yes t4 _ _ gB5 q15 (Int.le_refl _) (by omega)⟩)
          · refine iteNo c ⟨_, rfl, F5, p, 2, t4, rfl, g5.fh, q15, by omega, by decide, by decide, fun d9 t9 F9 H9 _ _ z1 z2 g9 p9 => ⟨rfl, _, rfl, ?_⟩⟩
            have gg := gB5.trans g9 fun b hb => .inl hb
            by_cases c2 : decide (V.int d9 = V.int 0) = true
            · exact iteYes c2 ⟨_, rfl, yes t9 _ _ gg p9 z1 z2⟩
            · refine iteNo c2 (n0 _ _ gg ⟨t9, es, p9, by omega, by omega, q4, by rw [tm]; exact q5.trans (List.sublist_append_left _ _), fun z hz ho => ?_⟩)
              rw [tm] at hz
              rcases List.mem_append.mp hz with hz | hz
              · exact q6 z hz ho
              · rw [List.mem_singleton.mp hz] at ho
                exact absurd (List.contains_iff_mem.mpr ho) c
        · rw [List.take_length] at q5 q6
          subst q4
          have g4 : Gr [p] F0 H F4 H4 := g3.trans gr fun b hb => .inl hb
          have gE := g4.done (g3.dm _ hE) fE hEc
          have hD4 := gr.hh D _ (by simpa using Ne.symm npD) hDC
          have nED : D ≠ E := ne_of_none hDC hE
          have fD4 : upd F4 E (.lst (es.map V.str)) D = none := by rw [upd_ne nED]; exact gr.none' fDC (by rw [hDC]; exact fun z => nomatch z)
          have exE : Ex F4 (upd F4 E (.lst (es.map V.str))) := Ex.new fE
          have dE : Dp K (upd F4 E (.lst (es.map V.str))) (.ref E) (.list (es.map .str)) := .lst (.inl (.inl upd_same)) (dps_str.mpr rfl)
          have lk := tells_len tl
          have fewk := Nat.le_trans (nodup_le I.nd I.key) (show all7.length ≤ 7 by decide)
          have pE : PenAt K (upd F4 E (.lst (es.map V.str))) H4 p t4 := q1.ex' exE (by
            have z := ne_of_none hoC hE
            rw [upd_ne z]
            exact q1.f)
          refine ⟨_, rfl, _, rfl, D, _, rfl, DPut.k (k := Sum.inr k) hD4 (by omega), ?_⟩
          exact ⟨_, _, _, _, _, addK ks k, fun x => if x = k then es else m x, t4, rfl, gE.mut fD4 (.inr hD0), fD4, upd_same, exE _ _ (gr.ff _ _ hSC), pE.upd' npD, by omega, by omega, tells_any ((tlC.ex gr.ff).ex exE) dE, I.put hk nS q5 q6⟩
      · rintro σ' H10 ⟨o4, o5, o6, F10, kvs, ks, m, t7, rfl, g10, fD10, hD10, hS10, hp10, v1, v2, tl10, I⟩
        have okm := I.fin (by omega) sok.nd
        have lk := tells_len tl10
        have fewk := okm.few
        have gd := g10.done hD0 fD10 hD10
        have fD : upd F10 D (.dK kvs) D = some (.dK kvs) := upd_same
        have eD : Ex F10 (upd F10 D (.dK kvs)) := Ex.new fD10
        have tlD := tl10.ex eD
        have hpD : PenAt K (upd F10 D (.dK kvs)) H10 p t7 := hp10.ex' eD (by rw [upd_ne npD]; exact hp10.f)
        generalize upd F10 D (.dK kvs) = F11 at gd fD tlD hpD
        clear eD hp10 tl10
        refine ⟨D, _, hD10, True.intro, fun od => ?_⟩
        have na : upd H10 D (.frz od (.dK kvs)) D = some (.frz od (.dK kvs)) := upd_same
        refine ⟨_, rfl, D, od, rfl, .inl ⟨kvs, na, fun E hE => ?_⟩⟩
        refine prs (K := K) (ks := ks) (m := fun k => if m k = [] then [""] else m k) (enc := .list) (by rw [← lk]; exact walk_keys) (sees_lock gd.fh fD) (fun F' H' g => g.at na) (by omega) I.nd (fun i k x F' H' H'' hk gr yy => ?_) (fun k F12 H12 hk g12 => ?_) hE fun as kvs' F12 H12 g12 fE hEc pr tl2 => ?_
        · obtain ⟨rfl, k', v', e1, rfl⟩ := yy
          rw [tells_at tlD e1 hk]
          exact ⟨rfl, rfl⟩
        · obtain ⟨u, y1, y2⟩ := tlD.va k hk
          have gt : ∀ {F13 H13 : Hp}, Gr [] F12 H12 F13 H13 → DGet H13 D (.str k) (some u) := fun g13 => .inl ⟨kvs, Sum.inr k, .inr ⟨od, g13.at (g12.at na)⟩, rfl, y1.symm⟩
          refine turn1 rfl fun Yes h => ⟨_, rfl, _, rfl, _, rfl, D, u, rfl, gt (Gr.refl g12.fh), Nat.zero_le _, fun l hl => ?_⟩
          have g13 := (Gr.refl (B := []) g12.fh).newM (o := .lst []) hl
          have uk := y2.ex g12.ff
          have stk : ∀ z ∈ m k, PyData.strOk z = true := fun z hz => by
            rcases I.sub k hk z hz with rfl | h
            · decide +kernel
            · exact (sok.ok z h).2.2.2
          refine ne_nil stk (uk.sees g13.fh) upd_same ⟨_, rfl, ?_⟩
          generalize upd H12 l (.lst []) = H13 at g13 ⊢
          by_cases c : m k = []
          · refine iteNo (by rw [decide_eq_true c]; decide) ⟨by show 1 ≤ sizeLine; omega, fun l2 hl2 => ⟨by show 2 ≤ sizeLine; omega, fun t ht => ?_⟩⟩
            have g14 := (g13.new (o := .lst [.str ""]) hl2).new (o := .tup [.str k, .ref l2]) ht
            refine h _ _ _ g14 ⟨t, .ref l2, rfl, upd_same, ?_⟩
            rw [if_pos c]
            exact .lst (.inl (.inl (by rw [upd_ne (ne_of_none (upd_same : upd H13 l2 (.lst [.str ""]) l2 = _) ht)]; exact upd_same))) (.cons (.str _) .nil)
          · refine iteYes (by rw [decide_eq_false c]; rfl) ⟨_, rfl, _, rfl, D, u, rfl, gt g13, by show 2 ≤ sizeLine; omega, fun t ht => ?_⟩
            have g14 := g13.new (o := .tup [.str k, u]) ht
            refine h _ _ _ g14 ⟨t, u, rfl, upd_same, ?_⟩
            rw [if_neg c]
            exact uk.ex g14.ff
        · refine ⟨g12.at na, ?_⟩
          have gU := Gr.unlock fD hD10 g12
          have g13 := gd.trans gU
          have nED : E ≠ D := ne_of hEc (g12.at na) (fun z => nomatch z)
          have hE13 : upd H12 D (.dK kvs) E = some (.lst (as.map V.ref)) := by rw [upd_ne nED]; exact hEc
          have hp13 := hpD.gr gU (by simp)
          generalize upd H12 D (.dK kvs) = H13 at gU g13 hE13 hp13 ⊢
          refine ⟨E, as, kvs', rfl, .inl (.inl hE13), pd_up (fun t kv h => sees_t g13.fh (.inl (.inl h))) pr, fun G hG => ?_⟩
          have ndk : (kvs'.map (·.1)).Nodup := by rw [tl2.ke]; exact List.pairwise_map.mpr (I.nd.imp fun n z => n (Sum.inr.inj z))
          rw [mergeK_nil ndk]
          have g14 := (Gr.refl (B := []) g13.fh).new (o := .dK kvs') hG
          exact q G kvs' S ks _ t7 _ _ sok sl okm upd_same upd_same (tl2.ex (Ex.new (g13.fh.dm hG))) (by omega) (by omega) (g13.trans g14 fun b hb => absurd hb (by simp)) (hp13.gr g14 (by simp))
end
end TW
set_option Elab.async false
set_option linter.all false
set_option maxRecDepth 100000
set_option maxHeartbeats 16000000
/-! so many blends -/
namespace TW
open PySem PySem.Spec PyProof.Rows L2 RZ StX
open Evl (Ex)
def vs5 : List Str := ["x", "y", "z", "u", "v"]
theorem signs_at : ∀ i, i < 6 → signs (cutS ("xyzuv" : Str) none (some ((i : Nat) : Int))) = vs5.take i
  | 0, _ => by decide +kernel
  | 1, _ => by decide +kernel
  | 2, _ => by decide +kernel
  | 3, _ => by decide +kernel
  | 4, _ => by decide +kernel
  | 5, _ => by decide +kernel
  | n + 6, h => absurd h (by omega)
theorem vs5_ok : vs5.Nodup ∧ ∀ z ∈ vs5, z.length ≤ 1000 ∧ isHeard (.str z) = true ∧ z ≠ "" := by decide +kernel
def spCounted (K : PySem.W.Frag) : Sp := fun vs H Q _ => ∃ F : Hp, vs = [] ∧ Sees F H ∧ ∀ F' H', Gr [] F H F' H' → Q (.bl true) H'
section
variable {P : Program} {w : World} {K : PySem.W.Frag} {mg : Str → Option Value} {base : Heap}
theorem ok_counted {f C : Addr} {fd : FuncData} (F : Fun K "_law_counted_right" "_law_counted_right" s__law_counted_right f fd) (T : Txt mg) (M_Wall : Mkr P w K mg base "Wall" C 4 ["self", "marks"] (spWaI K C)) (C_blends : Cal P w K mg base "blends" 3 ["wall"] [] (spBlends K C)) : FnOk P w K mg base CX0 6 f fd [] (spCounted K) := by
  refine F.ok sc__law_counted_right (fun vs H Q E h => ?_) (fun cdv A outer s H vs Q E hr h => ?_)
  · obtain ⟨F0, rfl, _⟩ := h
    rfl
  · obtain ⟨F0, rfl, fs, q⟩ := h
    have hu := hu_of hr
    have hu64 := hr.units
    have lz : 100000 < sizeLine := by rw [sizeLine_eq]; decide
    refine ⟨_, (pss_one (ps_ret (pe_cmpR (op_eqDD K hu64) (pe_lc (own := [("many", 0)]) rfl sc__law_counted_right.nd (pi_range1 rfl T.range (pa_cons pe_int pa_nil)) (blkOk_by (N := sc__law_counted_rightN) (sc := defScope s__law_counted_right) (by decide +kernel)) (fun _ _ _ _ _ => (zg (i := 0) sc__law_counted_right.nd)) (fun _ _ _ _ _ => pts_nil) (fun _ _ _ _ _ => (pe_callB (cr_len K) (by rfl) T.len bt_len (pa_cons (pe_cal C_blends (hr.mono (by decide)) (pa_cons (pe_mk M_Wall (hr.mono (by decide)) (pa_cons (pe_disp (pps_cons pe_str (pe_op op_cat (pe_callTy cr_listS (by rfl) T.list bt_list (pa_cons (pe_slice sl_str pe_str po_none (po_some (pv 0))) pa_nil)) (pe_lst (pa_cons pe_str pa_nil))) pps_nil) rfl rfl (by simp) (by decide)) pa_nil)) pa_nil)) pa_nil)))) (pe_lst (pa_cons pe_int (pa_cons pe_int (pa_cons pe_int (pa_cons pe_int (pa_cons pe_int (pa_cons pe_int pa_nil))))))) (nomark _)))), ?_⟩
    refine ⟨_, rfl, by decide, by decide, fun D hD => ?_⟩
    refine lc_map (K := K) (bs := List.range 6) (f := fun i => .int (((prof i).length : Nat) : Int)) (Im := fun i x F => x = .int ((i : Nat) : Int)) (by rw [List.length_range]; exact walk_range) fs (fun _ _ => True.intro) (by simp) (fun i k x F' H' H'' hb g1 yy => ?_) (fun i x F' H' hi g1 im => ?_) hD fun acc F' H' gD fD hDc dD => ?_
    · obtain ⟨rfl, rfl⟩ := yy
      have e : i = k := by
        obtain ⟨z1, z2⟩ := List.getElem?_eq_some_iff.mp hb
        simpa using z2
      exact ⟨F', Gr.refl g1.fh, by show V.int (0 + (i : Int)) = _; rw [e, Int.zero_add]⟩
    · subst im
      have i6 := List.mem_range.mp hi
      refine turn1 rfl fun Yes h => ?_
      have sg := signs_at i i6
      have ssz : (cutS ("xyzuv" : Str) none (some ((i : Nat) : Int))).cps.size ≤ 5 := by
        have z := congrArg List.length sg
        simp only [signs, List.length_map, Array.length_toList, List.length_take] at z
        rw [z]
        exact Nat.min_le_right _ _
      refine fun d hd => ⟨_, rfl, _, rfl, _, rfl, by show 5 ≤ sizeLine; omega, .mk ⟨_, rfl, by omega, fun l1 hl1 => ⟨by show 1 ≤ sizeLine; omega, fun l2 hl2 => ?_⟩⟩⟩
      rw [sg] at hl2 ⊢
      have lt : (vs5.take i).length ≤ 5 := by rw [List.length_take]; exact Nat.min_le_right _ _
      refine ⟨l1, l2, _, _, rfl, rfl, by rw [upd_ne (ne_of_none (upd_same : upd (upd H' d (.dK [])) l1 (.lst ((vs5.take i).map V.str)) l1 = _) hl2)]; exact upd_same, upd_same, by rw [List.length_map]; show _ + 1 ≤ sizeLine; omega, fun l3 hl3 => ?_⟩
      -- the dict
      have g2 := ((((Gr.refl (B := []) g1.fh).newM (o := .dK []) hd).newM (o := .lst ((vs5.take i).map V.str)) hl1).newM (o := .lst [.str ""]) hl2).new (o := .lst ((vs5.take i).map V.str ++ [.str ""])) hl3
      have fd : F' d = none := g1.fh.dm hd
      have hd2 : upd (upd (upd (upd H' d (.dK [])) l1 (.lst ((vs5.take i).map V.str))) l2 (.lst [.str ""])) l3 (.lst ((vs5.take i).map V.str ++ [.str ""])) d = some (.dK []) := by
        have z0 : upd H' d (.dK []) d = some (.dK []) := upd_same
        have z1 : upd (upd H' d (.dK [])) l1 (.lst ((vs5.take i).map V.str)) d = some (.dK []) := by rw [upd_ne (ne_of_none z0 hl1)]; exact z0
        have z2 : upd (upd (upd H' d (.dK [])) l1 (.lst ((vs5.take i).map V.str))) l2 (.lst [.str ""]) d = some (.dK []) := by rw [upd_ne (ne_of_none z1 hl2)]; exact z1
        rw [upd_ne (ne_of_none z2 hl3)]
        exact z2
      have fd2 : upd F' l3 (.lst ((vs5.take i).map V.str ++ [.str ""])) d = none := by
        have z0 : upd H' d (.dK []) d = some (.dK []) := upd_same
        have z1 : upd (upd H' d (.dK [])) l1 (.lst ((vs5.take i).map V.str)) d = some (.dK []) := by rw [upd_ne (ne_of_none z0 hl1)]; exact z0
        have z2 : upd (upd (upd H' d (.dK [])) l1 (.lst ((vs5.take i).map V.str))) l2 (.lst [.str ""]) d = some (.dK []) := by rw [upd_ne (ne_of_none z1 hl2)]; exact z1
        rw [upd_ne (ne_of_none z2 hl3)]
        exact fd
      have d3 : Dp K (upd F' l3 (.lst ((vs5.take i).map V.str ++ [.str ""]))) (.ref l3) (.list ((vs5.take i ++ [("" : Str)]).map .str)) := .lst (.inl (.inl upd_same)) (by rw [show (vs5.take i).map V.str ++ [V.str ""] = (vs5.take i ++ [("" : Str)]).map V.str by rw [List.map_append]; rfl]; exact dps_str.mpr rfl)
      generalize upd F' l3 (.lst ((vs5.take i).map V.str ++ [.str ""])) = F2 at g2 fd2 d3
      generalize upd (upd (upd (upd H' d (.dK [])) l1 (.lst ((vs5.take i).map V.str))) l2 (.lst [.str ""])) l3 (.lst ((vs5.take i).map V.str ++ [.str ""])) = H2 at g2 hd2 ⊢
      refine ⟨hd2, [(Sum.inr "a", .ref l3)], rfl, by show 1 ≤ 15; decide, fun y dy hy hdy ney => ?_⟩
      rw [mergeK_nil (more := [((Sum.inr "a" : Key), V.ref l3)]) (by simp)] at hy hdy ⊢
      have hH : H' d = none := hd
      have g3 := (g2.mut (o := .dK [((Sum.inr "a" : Key), V.ref l3)]) fd2 (.inr hH)).done hH fd2 upd_same
      have h3 : upd H2 d (.dK [((Sum.inr "a" : Key), V.ref l3)]) d = some (.dK [((Sum.inr "a" : Key), V.ref l3)]) := upd_same
      have f3 : upd F2 d (.dK [((Sum.inr "a" : Key), V.ref l3)]) d = some (.dK [((Sum.inr "a" : Key), V.ref l3)]) := upd_same
      have t3 : Tells K (upd F2 d (.dK [((Sum.inr "a" : Key), V.ref l3)])) [((Sum.inr "a" : Key), V.ref l3)] [("a" : Str)] (fun _ => vs5.take i ++ [("" : Str)]) .list := ⟨rfl, fun s hs => by
        rw [List.mem_singleton.mp hs]
        exact ⟨_, valV_pos rfl, d3.ex (Ex.new fd2)⟩⟩
      generalize upd F2 d (.dK [((Sum.inr "a" : Key), V.ref l3)]) = F3 at g3 f3 t3
      generalize upd H2 d (.dK [((Sum.inr "a" : Key), V.ref l3)]) = H3 at g3 h3 hy hdy ⊢
      clear g2 hd2 fd2 d3 hl1 hl2 hl3 hd fd
      obtain ⟨vnd, vok⟩ := vs5_ok
      have ndl : (vs5.take i ++ [("" : Str)]).Nodup := List.nodup_append.mpr ⟨vnd.sublist (List.take_sublist _ _), by simp, fun a ha b hb e => by
        rw [List.mem_singleton.mp hb] at e
        exact (vok a (List.mem_of_mem_take ha)).2.2 e⟩
      refine ⟨F3, y, dy, d, _, [("a" : Str)], fun _ => vs5.take i ++ [("" : Str)], .list, rfl, upd_same, g3.fh.dm hy, make_sees g3.fh hy hdy ney, f3, by rw [upd_ne (ne_of_none h3 hy), upd_ne (ne_of_none h3 hdy)]; exact h3, t3, fun l => .inl rfl, by simp, by simp, by simp, fun k hk => ?_, fun k hk => ⟨by simp, by rw [List.length_append]; show _ + 1 ≤ 6; omega, fun z hz => ?_, ndl⟩, fun s' F4 H4 wk wm g4 fy4 hwa hfr => ⟨rfl, ?_⟩⟩
      · rw [List.mem_singleton.mp hk]
        decide +kernel
      · rcases List.mem_append.mp hz with hz | hz
        · exact ⟨(vok z (List.mem_of_mem_take hz)).1, (vok z (List.mem_of_mem_take hz)).2.1⟩
        · rw [List.mem_singleton.mp hz]
          decide +kernel
      · have g5 := make_gr g3.fh hy hdy ney g4 fy4
        have ok' : s'.Ok := hwa.ok
        have wk' : s'.ks = [("a" : Str)] := List.perm_singleton.mp wk
        have mem : ∀ z, z ∈ s'.all ↔ z ∈ vs5.take i := fun z => by
          rw [ok'.al, wk']
          have pm := wm "a" (by simp)
          constructor
          · rintro ⟨n, k, hk, hz⟩
            rw [List.mem_singleton.mp hk] at hz
            rcases List.mem_append.mp (pm.mem_iff.mp hz) with hz | hz
            · exact hz
            · exact absurd (List.mem_singleton.mp hz) n
          · intro hz
            exact ⟨(vok z (List.mem_of_mem_take hz)).2.2, "a", by simp, pm.mem_iff.mpr (List.mem_append_left _ hz)⟩
        have len : s'.all.length = i := by
          rw [nodup_len ok'.an (vnd.sublist (List.take_sublist i vs5)) mem, List.length_take]
          show min i 5 = i
          omega
        refine ⟨_, y, s', rfl, g5.fh, hwa, by omega, fun r F6 H6 g6 hr6 => len_dp hr6 (.inr rfl) g6.fh (h _ _ _ ((g3.trans g5).trans g6) ?_)⟩
        rw [List.length_map, allB_len, len]
        exact .int _
    · have g2 := gD.done hD fD hDc
      have e1 : (List.range 6).map (fun i => PyData.int (((prof i).length : Nat) : Int)) = (([1, 2, 5, 15, 52, 203] : List Int).map PyData.int) := by
        have z := congrArg (List.map fun n : Nat => PyData.int (n : Int)) prof_counts
        rw [List.map_map] at z
        exact z
      rw [e1] at dD
      have d2 : Dp K (upd F' D (.lst acc)) (.ref D) (.list (([1, 2, 5, 15, 52, 203] : List Int).map PyData.int)) := .lst (.inl (.inl upd_same)) (dD.ex (Ex.new fD))
      generalize upd F' D (.lst acc) = F2 at g2 d2
      refine ⟨by show 6 ≤ sizeLine; omega, fun l hl => ?_⟩
      have g3 := g2.new (o := .lst [.int 1, .int 2, .int 5, .int 15, .int 52, .int 203]) hl
      have e3 := Ex.new (o := HO.lst [.int 1, .int 2, .int 5, .int 15, .int 52, .int 203]) (g2.fh.dm hl)
      have d3 : Dp K (upd F2 l (.lst [.int 1, .int 2, .int 5, .int 15, .int 52, .int 203])) (.ref l) (.list (([1, 2, 5, 15, 52, 203] : List Int).map PyData.int)) := .lst (.inl (.inl upd_same)) (dps_int.mpr rfl)
      have sh := PySem.W.ke_shaped_ints [1, 2, 5, 15, 52, 203]
      refine .mk ⟨_, _, (d2.ex e3).sees g3.fh, d3.sees g3.fh, sh, sh, ?_⟩
      rw [SeqAt.eqv_refl _ (SeqAt.canLay_of_shaped sh)]
      exact q _ _ g3
end
end TW
set_option Elab.async false
set_option linter.all false
set_option maxRecDepth 100000
set_option maxHeartbeats 16000000
set_option pp.maxSteps 700
/-! one drawn wall -/
namespace TW
open PySem PySem.Spec PyProof.Rows L2 RZ StX
open Evl (Ex)
/-- what stays while a wall is asked -/
structure O84 (K : PySem.W.Frag) (C : Addr) (F H : Hp) (D y : Addr) (ve vt : V) (kvs : List (Key × V)) (ks : List Str) (m : Str → List Str) (s : WaD) : Prop where
  wa : WaAt K C F y s
  fr : WaFree C F H y
  fD : F D = some (.dK kvs)
  hD : H D = some (.dK kvs)
  tl : Tells K F kvs ks m .list
  de : Dp K F ve (.list (s.all.map .str))
  dt : Dp K F vt (.tuple ((allB s.all).map encB))
theorem O84.gr {K : PySem.W.Frag} {C : Addr} {F H F' H' : Hp} {D y : Addr} {ve vt : V} {kvs : List (Key × V)} {ks : List Str} {m : Str → List Str} {s : WaD} {B : List Addr} (o : O84 K C F H D y ve vt kvs ks m s) (g : Gr B F H F' H') (nB : ∀ b ∈ B, F b = none := by intro b hb; exact absurd hb (by simp)) : O84 K C F' H' D y ve vt kvs ks m s :=
  ⟨o.wa.ex' g.ff, o.fr.gr o.wa g nB, g.ff _ _ o.fD, g.hh _ _ (fun h => by have z := nB _ h; rw [o.fD] at z; cases z) o.hD, o.tl.ex g.ff, o.de.ex g.ff, o.dt.ex g.ff⟩
/-- .. and the blends that are picked -/
structure T84 (K : PySem.W.Frag) (C : Addr) (F0 H0 : Hp) (p : Addr) (t : Int) (D y : Addr) (ve vt : V) (kvs : List (Key × V)) (ks : List Str) (m : Str → List Str) (s : WaD) (l : List (V × Bl)) (F H : Hp) : Prop where
  g : Gr [p] F0 H0 F H
  O : O84 K C F H D y ve vt kvs ks m s
  hp : PenAt K F H p t
  d : ∀ x ∈ l, Dp K F x.1 (encB x.2)
section
variable {K : PySem.W.Frag} {C : Addr} {F0 H0 : Hp} {p : Addr} {t : Int} {D y : Addr} {ve vt : V} {kvs : List (Key × V)} {ks : List Str} {m : Str → List Str} {s : WaD} {l : List (V × Bl)} {F H F' H' : Hp}
theorem T84.gr (T : T84 K C F0 H0 p t D y ve vt kvs ks m s l F H) (g : Gr [] F H F' H') : T84 K C F0 H0 p t D y ve vt kvs ks m s l F' H' :=
  ⟨T.g.trans g fun b hb => absurd hb (by simp), T.O.gr g, T.hp.gr g (by simp), fun x hx => (T.d x hx).ex g.ff⟩
/-- is one thicker -/
theorem T84.askG (T : T84 K C F0 H0 p t D y ve vt kvs ks m s l F H) (l5 : s.all.length ≤ 5) {x z : V} {b c : Bl} (hx : TellB K F x b) (hz : TellB K F z c) (ox : BlOk s.all b) (oz : BlOk s.all c) {Q : VK} {E : XK} (q : ∀ F' H', Gr [] F H F' H' → T84 K C F0 H0 p t D y ve vt kvs ks m s l F' H' → Q (.bl (thick b c)) H') : spThicker K C [.ref y, x, z] H Q E :=
  ⟨F, y, s, x, z, b, c, rfl, T.g.fh, T.O.wa, hx, hz, ox, oz, by omega, fun F' H' g => q F' H' g (T.gr g)⟩
theorem T84.ask (T : T84 K C F0 H0 p t D y ve vt kvs ks m s l F H) (l5 : s.all.length ≤ 5) {x z : V} {b c : Bl} (hx : (x, b) ∈ l) (hz : (z, c) ∈ l) (ox : BlOk s.all b) (oz : BlOk s.all c) {Q : VK} {E : XK} (q : ∀ F' H', T84 K C F0 H0 p t D y ve vt kvs ks m s l F' H' → Q (.bl (thick b c)) H') : spThicker K C [.ref y, x, z] H Q E :=
  T.askG l5 (.mk' (T.d _ hx)) (.mk' (T.d _ hz)) ox oz fun F' H' _ T' => q F' H' T'
end
/-- a test that says no, whatever it does -/
theorem no_test {t : TT} {σ : L2.St} {H : Hp} {Q : Bool → Hp → Prop} (S : Hp → Prop) (ht : ∀ Q : Bool → Hp → Prop, (∀ H', S H' → Q false H') → t σ H Q) (hb : ∀ H', S H' → Q false H') : t σ H Q := ht Q hb
theorem Gr.ext {F H H' : Hp} (s : Sees F H) (e : Ext H H') : Gr [] F H F H' where
  ff := Ex.refl F
  hh := fun a o _ h => e a o h
  fh := fun a o h => (s a o h).imp (e a o) fun ⟨ob, u, i, z⟩ => ⟨ob, u, i, e _ _ z⟩
  nw := fun _ _ h => .inl h
  dm := fun a h => by
    cases z : H a with
    | none => rfl
    | some o => rw [e a o z] at h; cases h
  dt := fun a h => by
    cases z : H a with
    | none => exact .n
    | some o => rw [e a o z] at h; exact h
theorem dps_rev {K : PySem.W.Frag} {F : Hp} : ∀ {xs : List V} {ds : List PyData}, DpAll K F xs ds → DpAll K F xs.reverse ds.reverse
  | _, _, .nil => .nil
  | _, _, .cons h t => by
    rw [List.reverse_cons, List.reverse_cons]
    exact (dps_rev t).append (.cons h .nil)
theorem told_rev {K : PySem.W.Frag} {F : Hp} {xs : List V} {b : Bl} (h : DpAll K F xs (b.map encLG)) : DpAll K F xs.reverse (b.reverse.map fun g => .list (g.map .str)) := by
  have z := dps_rev h
  rw [← List.map_reverse] at z
  exact z
theorem canLay_R {g : List Str} (h : ∀ z ∈ g, PyData.strOk z = true) : (encR g).canLay0 = true := SeqAt.canLay_of_shaped (shaped_strs h)
theorem canLayAll_B : ∀ {b : Bl}, (∀ g ∈ b, ∀ z ∈ g, PyData.strOk z = true) → PyData.canLayAll0 (b.map encR) = true
  | [], _ => by simp [PyData.canLayAll0]
  | g :: b, h => by
    simp only [List.map_cons, PyData.canLayAll0, canLay_R (h g List.mem_cons_self), canLayAll_B (b := b) fun g hg => h g (List.mem_cons_of_mem _ hg), Bool.and_self]
theorem shaped_B {b : Bl} (h : ∀ g ∈ b, ∀ z ∈ g, PyData.strOk z = true) : SeqAt.shaped (encB b) = true := by
  have z := canLayAll_B h
  have d := depth_B b
  simp only [SeqAt.shaped, Bool.and_eq_true, decide_eq_true_eq]
  exact ⟨by simpa [encB, PyData.canLay0] using z, by omega⟩
theorem flat_singles (l : List Str) : (l.map fun z => [z]).flatten = l := by
  induction l with
  | nil => rfl
  | cons a l ih => rw [List.map_cons, List.flatten_cons, ih]; rfl
theorem singles_ok {ms : List Str} (nd : ms.Nodup) : BlOk ms (ms.map fun z => [z]) := by
  refine ⟨fun g hg => ?_, by rw [flat_singles]; exact nd, fun z hz => by rw [flat_singles] at hz; exact hz, fun g hg => ?_⟩
  · obtain ⟨z, _, rfl⟩ := List.mem_map.mp hg
    exact fun e => nomatch e
  · obtain ⟨z, _, rfl⟩ := List.mem_map.mp hg
    exact List.pairwise_singleton _ _
theorem nil_ok (ms : List Str) : BlOk ms [] := ⟨fun _ h => (nomatch h), List.nodup_nil, fun _ h => (nomatch h), fun _ h => (nomatch h)⟩
def spOne84 (K : PySem.W.Frag) : Sp := fun vs H Q _ => ∃ (F : Hp) (p : Addr) (many : Nat) (t : Int), vs = [.ref p, .int many] ∧ Sees F H ∧ PenAt K F H p t ∧ t ≤ 800000 ∧ many ≤ 5 ∧ ∀ t' F' H', t ≤ t' → t' ≤ t + 100 → Gr [p] F H F' H' → PenAt K F' H' p t' → Q (.bl true) H'
section
variable {P : Program} {w : World} {K : PySem.W.Frag} {mg : Str → Option Value} {base : Heap}
theorem ok_one84 {f C : Addr} {fd : FuncData} (F : Fun K "_law_one_right" "_law_one_right" s__law_one_right f fd) (T : Txt mg) (TW_ : WaC K C) (M_Wall : Mkr P w K mg base "Wall" C 4 ["self", "marks"] (spWaI K C)) (C__law_marks : Cal P w K mg base "_law_marks" 3 ["pen", "many"] [] (spLMk K)) (C__law_pick : Cal P w K mg base "_law_pick" 2 ["pen", "some"] [] (spPick K))
    (CB_blends : CalB P w K mg base "blends" 3 ["wall"] ["wall"] (spBlends K C)) (C__law_blends : Cal P w K mg base "_law_blends" 1 ["marks"] [] (spLawBlends K)) (C_is_thicker : Cal P w K mg base "is_thicker" 4 ["wall", "one", "other"] [] (spThicker K C)) (CB_is_thicker : CalB P w K mg base "is_thicker" 4 ["wall", "one", "other"] ["other", "one", "wall"] (spThicker K C))
    (C__law_thicker : Cal P w K mg base "_law_thicker" 2 ["every", "one", "other"] [] (spLawThicker K)) (C_blended : Cal P w K mg base "blended" 7 ["wall", "groups"] [] (spBlended K C)) (CB_blended : CalB P w K mg base "blended" 7 ["wall", "groups"] ["groups", "wall"] (spBlended K C))
    (C__law_blended : Cal P w K mg base "_law_blended" 2 ["marks", "groups"] [] (spLawBlended K)) (Pr_marks : PrC P w K mg base C "marks" 1 (spWaM K C)) (Eq_Wall : EqC P w K mg base C 1 (SameW K C)) : FnOk P w K mg base CX0 8 f fd ["pen", "many"] (spOne84 K) := by
  refine F.ok sc__law_one_right (fun vs H Q E h => ?_) (fun cdv A outer s H vs Q E hr h => ?_)
  · obtain ⟨F0, p, many, t, rfl, _⟩ := h
    rfl
  · obtain ⟨F0, p, many, t, rfl, fs, hp, ht, m5, q⟩ := h
    have hu := hu_of hr
    have hu16 := hu16_of hr
    have hu64 := hr.units
    have hu65 := hu65_B hr.toRoom
    have lz : 100000 < sizeLine := by rw [sizeLine_eq]; decide
    refine ⟨_, (pss_cons (zs (i := 2) sc__law_one_right.nd (pe_cal C__law_marks (hr.mono (by decide)) (pa_cons (pv 0) (pa_cons (pv 1) pa_nil))))
      (pss_cons (zs (i := 3) sc__law_one_right.nd (pe_mk M_Wall (hr.mono (by decide)) (pa_cons (pv 2) pa_nil)))
      (pss_cons (zpar (i := 4) (j := 5) sc__law_one_right.nd (pa_cons (pe_lc (own := [("mark", 6)]) rfl sc__law_one_right.nd (zseq K (zfld K (pv 3))) (blkOk_by (N := sc__law_one_rightN) (sc := defScope s__law_one_right) (by decide +kernel)) (fun _ _ _ _ _ => (zg (i := 6) sc__law_one_right.nd)) (fun _ _ _ _ _ => pts_nil) (fun _ _ _ _ _ => (pv 6))) (pa_cons (pe_calB CB_blends (hr.mono (by decide)) (pk_cons (pv 3) pk_nil)) pa_nil)))
      (pss_cons (ps_if (PW.pt (pw_or (pt_not (pt_val (pe_callB (cr_isi K) (by rfl) T.isinstance bt_isinstance (pa_cons (pv 5) (pa_cons (zty T.tuple bt_tuple) pa_nil))))) (pw_or (pt_cmpR op_ne (pe_callB (cr_repr K hr.gu hu64) (by rfl) T.repr bt_repr (pa_cons (pe_callTy (cr_list K) (by rfl) T.list bt_list (pa_cons (pv 5) pa_nil)) pa_nil)) (pe_callB (cr_repr K hr.gu hu64) (by rfl) T.repr bt_repr (pa_cons (pe_cal C__law_blends (hr.mono (by decide)) (pa_cons (pv 4) pa_nil)) pa_nil)) (nomark _)) (pw_or1 (pt_cmpR op_ne (pe_callB (cr_len K) (by rfl) T.len bt_len (pa_cons (pv 4) pa_nil)) (pv 1) (nomark _))))))
        (pss_one (ps_ret pe_bl))
        pss_nil)
      (pss_cons (ps_for PassesOwn.never rfl (pi_range1 rfl T.range (pa_cons pe_int pa_nil)) (zg (i := 7) sc__law_one_right.nd)
        (pss_cons (zpar (i := 8) (j := 9) sc__law_one_right.nd (pa_cons (pe_cal C__law_pick (hr.mono (by decide)) (pa_cons (pv 0) (pa_cons (pv 5) pa_nil))) (pa_cons (pe_cal C__law_pick (hr.mono (by decide)) (pa_cons (pv 0) (pa_cons (pv 5) pa_nil))) pa_nil)))
        (pss_cons (ps_if (PW.pt (pw_or (pt_cmpR op_ne (pe_callB cr_reprB (by rfl) T.repr bt_repr (pa_cons (pe_cal C_is_thicker (hr.mono (by decide)) (pa_cons (pv 3) (pa_cons (pv 8) (pa_cons (pv 9) pa_nil)))) pa_nil)) (pe_callB cr_reprB (by rfl) T.repr bt_repr (pa_cons (pe_cal C__law_thicker (hr.mono (by decide)) (pa_cons (pv 4) (pa_cons (pv 8) (pa_cons (pv 9) pa_nil)))) pa_nil)) (nomark _)) (pw_or1 (pt_cmpR op_isnot_bl (pe_calB CB_is_thicker (hr.mono (by decide)) (pk_cons (pv 8) (pk_cons (pv 8) (pk_cons (pv 3) pk_nil)))) pe_bl (nomark _)))))
          (pss_one (ps_ret pe_bl))
          pss_nil)
        (pss_cons (ps_if (PW.pt (pw_or (pt_cmpR op_isnot_bl (pe_cal C_is_thicker (hr.mono (by decide)) (pa_cons (pv 3) (pa_cons (pe_tup pa_nil) (pa_cons (pv 8) pa_nil)))) pe_bl (nomark _)) (pw_or1 (pt_cmpR op_isnot_bl (pe_cal C_is_thicker (hr.mono (by decide)) (pa_cons (pv 3) (pa_cons (pv 8) (pa_cons (pe_callTy (cr_tuple K) (by rfl) T.tuple bt_tuple (pa_cons (pe_lc (own := [("mark", 6)]) rfl sc__law_one_right.nd (zseq K (pv 4)) (blkOk_by (N := sc__law_one_rightN) (sc := defScope s__law_one_right) (by decide +kernel)) (fun _ _ _ _ _ => (zg (i := 6) sc__law_one_right.nd)) (fun _ _ _ _ _ => pts_nil) (fun _ _ _ _ _ => (pe_tup (pa_cons (pv 6) pa_nil)))) pa_nil)) pa_nil)))) pe_bl (nomark _)))))
          (pss_one (ps_ret pe_bl))
          pss_nil)
        (pss_cons (ps_if (PW.pt (pw_and (pt_cmpR (op_neDD K hu64) (pv 8) (pv 9) (nomark _)) (pw_and (pt_val (pe_cal C_is_thicker (hr.mono (by decide)) (pa_cons (pv 3) (pa_cons (pv 8) (pa_cons (pv 9) pa_nil))))) (pw_and1 (pt_val (pe_cal C_is_thicker (hr.mono (by decide)) (pa_cons (pv 3) (pa_cons (pv 9) (pa_cons (pv 8) pa_nil)))))))))
          (pss_one (ps_ret pe_bl))
          pss_nil)
        (pss_cons (zs (i := 10) sc__law_one_right.nd (pe_cal C__law_pick (hr.mono (by decide)) (pa_cons (pv 0) (pa_cons (pv 5) pa_nil))))
        (pss_cons (ps_if (PW.pt (pw_and (pt_val (pe_cal C_is_thicker (hr.mono (by decide)) (pa_cons (pv 3) (pa_cons (pv 8) (pa_cons (pv 9) pa_nil))))) (pw_and (pt_val (pe_cal C_is_thicker (hr.mono (by decide)) (pa_cons (pv 3) (pa_cons (pv 9) (pa_cons (pv 10) pa_nil))))) (pw_and1 (pt_not (pt_val (pe_cal C_is_thicker (hr.mono (by decide)) (pa_cons (pv 3) (pa_cons (pv 8) (pa_cons (pv 10) pa_nil))))))))))
          (pss_one (ps_ret pe_bl))
          pss_nil)
        (pss_cons (zs (i := 11) sc__law_one_right.nd (pe_revL (pe_lc (own := [("group", 12)]) rfl sc__law_one_right.nd (zseq K (pv 8)) (blkOk_by (N := sc__law_one_rightN) (sc := defScope s__law_one_right) (by decide +kernel)) (fun _ _ _ _ _ => (zg (i := 12) sc__law_one_right.nd)) (fun _ _ _ _ _ => pts_nil) (fun _ _ _ _ _ => (pe_callTy (cr_list K) (by rfl) T.list bt_list (pa_cons (pv 12) pa_nil))))))
        (pss_cons (ps_if (pt_cmpR (op_neU K hu65) (pe_prp Pr_marks (hr.toRoom.mono (by decide)) (pe_calB CB_blended (hr.mono (by decide)) (pk_cons (pv 11) (pk_cons (pv 3) pk_nil)))) (pe_cal C__law_blended (hr.mono (by decide)) (pa_cons (pe_callTy (call_dictP rfl) (by rfl) T.dict bt_dict (pa_cons (pe_lock (pe_lc (own := [("sound", 13)]) rfl sc__law_one_right.nd (pi_keys (pv 2)) (blkOk_by (N := sc__law_one_rightN) (sc := defScope s__law_one_right) (by decide +kernel)) (fun _ _ _ _ _ => (zg (i := 13) sc__law_one_right.nd)) (fun _ _ _ _ _ => pts_nil) (fun _ _ _ _ _ => (pe_tup (pa_cons (pv 13) (pa_cons (pe_callTy (cr_tuple K) (by rfl) T.tuple bt_tuple (pa_cons (pe_callB (cr_sortedQ K hu16) (by rfl) T.sorted bt_sorted (pa_cons (pe_dget hu (pv 2) (pv 13) (fun _ _ => rfl)) pa_nil)) pa_nil)) pa_nil)))))) pa_nil)) (pa_cons (pv 8) pa_nil))) (nomark _))
          (pss_one (ps_ret pe_bl))
          pss_nil)
        (pss_one (ps_if (pt_cmpR op_ne (pe_cal C_is_thicker (hr.mono (by decide)) (pa_cons (pv 3) (pa_cons (pv 11) (pa_cons (pe_revL (pe_lc (own := [("group", 12)]) rfl sc__law_one_right.nd (zseq K (pv 9)) (blkOk_by (N := sc__law_one_rightN) (sc := defScope s__law_one_right) (by decide +kernel)) (fun _ _ _ _ _ => (zg (i := 12) sc__law_one_right.nd)) (fun _ _ _ _ _ => pts_nil) (fun _ _ _ _ _ => (pe_callTy (cr_list K) (by rfl) T.list bt_list (pa_cons (pv 12) pa_nil))))) pa_nil)))) (pe_cal C_is_thicker (hr.mono (by decide)) (pa_cons (pv 3) (pa_cons (pv 8) (pa_cons (pv 9) pa_nil)))) (nomark _))
          (pss_one (ps_ret pe_bl))
          pss_nil)))))))))))
      (pss_one (ps_ret (pe_and (pe_cmpR (op_own Eq_Wall (hr.toRoom.mono (by decide))) (pe_cal C_blended (hr.mono (by decide)) (pa_cons (pv 3) (pa_cons (pe_lc (own := [("mark", 6)]) rfl sc__law_one_right.nd (zseq K (pv 4)) (blkOk_by (N := sc__law_one_rightN) (sc := defScope s__law_one_right) (by decide +kernel)) (fun _ _ _ _ _ => (zg (i := 6) sc__law_one_right.nd)) (fun _ _ _ _ _ => pts_nil) (fun _ _ _ _ _ => (pe_lst (pa_cons (pv 6) pa_nil)))) pa_nil))) (pv 3) (nomark _)) (pe_one (pe_cmpR (op_eqDD K hu64) (zfld K (pe_cal C_blended (hr.mono (by decide)) (pa_cons (pv 3) (pa_cons (pe_lst pa_nil) pa_nil)))) (pe_tup pa_nil) (nomark _))))))))))), ?_⟩
    refine ⟨_, rfl, _, rfl, F0, p, many, t, rfl, fs, hp, by omega, m5, fun D kvs S ks m t1 F1 H1 sok sl okm fD hD tl u1 u2 g1 hp1 => ?_⟩
    refine ⟨_, rfl, fun y dy hy hdy ney => ?_⟩
    refine ⟨F1, y, dy, D, kvs, ks, m, .list, rfl, upd_same, g1.fh.dm hy, make_sees g1.fh hy hdy ney, fD, by rw [upd_ne (ne_of_none hD hy), upd_ne (ne_of_none hD hdy)]; exact hD, tl, fun l => .inl rfl, okm.ne, by have := okm.few; omega, okm.nd, okm.snd, fun k hk => ⟨okm.one k hk, okm.six k hk, fun z hz => ?_, okm.mnd k hk⟩, fun s' F2 H2 wk wm g2 fy2 hwa hfr => ⟨rfl, ?_⟩⟩
    · rcases okm.sub k hk z hz with rfl | h
      · decide +kernel
      · exact ⟨(sok.ok z h).1, (sok.ok z h).2.1⟩
    have g2' := make_gr g1.fh hy hdy ney g2 fy2
    generalize upd F2 y ((H2 y).getD (.own 0)) = F3 at g2' hwa hfr
    clear g2 fy2 hy hdy ney
    have ok' : s'.Ok := hwa.ok
    have mem : ∀ z, z ∈ s'.all ↔ z ∈ S := fun z => by
      rw [ok'.al]
      constructor
      · rintro ⟨n, k, hk, hz⟩
        have hk' := wk.mem_iff.mp hk
        exact (okm.sub k hk' z ((wm k hk').mem_iff.mp hz)).resolve_left n
      · intro hz
        obtain ⟨k, hk, hz'⟩ := okm.all z hz
        exact ⟨(sok.ok z hz).2.2.1, k, wk.mem_iff.mpr hk, (wm k hk).mem_iff.mpr hz'⟩
    have len : s'.all.length = many := by rw [nodup_len ok'.an sok.nd mem, sl]
    have pw := ok'.slt
    have lS5 : s'.all.length ≤ 5 := by omega
    have noE : ("" : Str) ∉ s'.all := fun h => (sok.ok _ ((mem _).mp h)).2.2.1 rfl
    have sOk : ∀ z ∈ s'.all, PyData.strOk z = true := fun z hz => (sok.ok z ((mem z).mp hz)).2.2.2
    have sSh : ∀ z ∈ s'.all, Short z := fun z hz => sok.sh z ((mem z).mp hz)
    have wok : WaOk s' := ⟨fun e => okm.ne (by have z := wk; rw [e] at z; exact List.nil_perm.mp z), by rw [wk.length_eq]; have := okm.few; omega, fun k hk => okm.snd k (wk.mem_iff.mp hk), fun k hk => by rw [(wm k (wk.mem_iff.mp hk)).length_eq]; exact okm.one k (wk.mem_iff.mp hk), fun k hk => by rw [(wm k (wk.mem_iff.mp hk)).length_eq]; exact okm.six k (wk.mem_iff.mp hk), fun k hk z hz => by
      rcases okm.sub k (wk.mem_iff.mp hk) z ((wm k (wk.mem_iff.mp hk)).mem_iff.mp hz) with rfl | h
      · decide +kernel
      · exact ⟨(sok.ok z h).1, (sok.ok z h).2.1⟩⟩
    have g3 : Gr [p] F0 H F3 H2 := g1.trans g2' fun b hb => absurd hb (by simp)
    have hp3 := hp1.gr g2' (by simp)
    have fD3 := g2'.ff _ _ fD
    have hD3 := g2'.at hD
    have tl3 := tl.ex g2'.ff
    clear g2' g1 hp1 fD hD tl
    -- every, told
    obtain ⟨⟨dx, Dm, vs', va, kvs', hx, hDm, tlm, hva⟩, _⟩ := id hwa
    refine ⟨_, rfl, y, C, dx, _, _, rfl, sees_i g3.fh hx, TW_.cl, TW_.nA, rfl, seq_walk hva (.inr rfl) g3.fh fun J xs G w1 hG hxs hlen E hE => ?_⟩
    refine lc_seqM (bs := s'.all) (enc := .str) (f := .str) w1 hxs g3.fh hG (by omega) (fun z v F' H' hz g1 hv => turn1 rfl fun Yes h => ⟨_, rfl, h _ _ _ (Gr.refl g1.fh) hv⟩) hE fun acc F4 H4 g4' fE hEc hacc => ?_
    have g4 := g4'.done hE fE hEc
    have dE : Dp K (upd F4 E (.lst acc)) (.ref E) (.list (s'.all.map .str)) := .lst (.inl (.inl upd_same)) (hacc.ex (Ex.new fE))
    generalize upd F4 E (.lst acc) = F5 at g4 dE
    clear g4' hacc hEc fE hE
    refine ⟨_, rfl, F5, y, s', rfl, g4.fh, hwa.ex' g4.ff, lS5, fun vt F6 H6 g6 dt => ?_⟩
    have g36 := g4.trans g6
    have g06 : Gr [p] F0 H F6 H6 := g3.trans g36 fun b hb => absurd hb (by simp)
    have O : O84 K C F6 H6 D y (.ref E) vt kvs ks m s' := ⟨hwa.ex' g36.ff, hfr.gr hwa g36 (by simp), g36.ff _ _ fD3, g36.at hD3, tl3.ex g36.ff, dE.ex g6.ff, dt⟩
    have hp6 := hp3.gr g36 (by simp)
    clear g3 g4 g6 g36 hp3 fD3 hD3 tl3 dE dt hx hDm tlm hva hwa hfr
    have okB : ∀ {b : Bl}, b ∈ allB s'.all → BlOk s'.all b := fun hb => allB_ok pw hb
    have shB : ∀ b ∈ allB s'.all, (∀ g ∈ b, (∀ z ∈ g, Short z) ∧ g.length ≤ 5) ∧ b.length ≤ 5 := fun b hb => ⟨fun g hg => ⟨fun z hz => sSh z ((okB hb).sub z (List.mem_flatten.mpr ⟨g, hg, hz⟩)), Nat.le_trans ((okB hb).each hg) lS5⟩, allB_few lS5 hb⟩
    have lB : (allB s'.all).length ≤ 203 := by rw [allB_len]; exact (prof_few _ lS5).1
    have pB : 0 < (allB s'.all).length := by
      rw [allB_len]
      have z : ∀ n, n ≤ 5 → 0 < (prof n).length := by decide +kernel
      exact z _ lS5
    have nB : allB s'.all ≠ [] := fun e => by rw [e] at pB; simp at pB
    refine ⟨_, _, rfl, ?_⟩
    dsimp only [List.set_cons_zero, List.set_cons_succ]
    refine ⟨_, rfl, isi_dp (O.dt.sees g06.fh) rfl ⟨_, rfl, iteF ?_⟩⟩
    refine ⟨_, rfl, list_dp O.dt (.inr rfl) g06.fh fun l1 ys F7 H7 g7 _ _ hl1 hys => ?_⟩
    refine repr_L (.lst (.inl (.inl hl1)) (hys.sees g7.fh)) nB shB lB ?_
    refine ⟨_, rfl, F7, _, _, s'.all, rfl, g7.fh, O.de.ex g7.ff, .inl rfl, lS5, pw, fun r F8 H8 g8 hr8 => ?_⟩
    refine repr_L (hr8.sees g8.fh) nB shB lB ⟨rfl, _, rfl, ?_⟩
    rw [decide_eq_true rfl]
    have g78 := g7.trans g8
    have O8 := O.gr g78
    have hp8 := hp6.gr g78 (by simp)
    have g08 : Gr [p] F0 H F8 H8 := g06.trans g78 fun b hb => absurd hb (by simp)
    clear g7 g8 g78 O hp6 g06 hl1 hys hr8
    refine iteF ⟨_, rfl, len_dp O8.de (.inl rfl) g08.fh ⟨_, rfl, rfl, _, rfl, ?_⟩⟩
    rw [List.length_map, len, decide_eq_true rfl]
    refine iteF ?_
    refine ⟨_, rfl, by decide, by decide, ?_⟩
    refine for_it walk_range (fun i σ' H' => ∃ (o7 o8 o9 o10 o11 : Option V) (F' : Hp) (t' : Int), σ' = [some (.ref p), some (.int many), some (.ref D), some (.ref y), some (.ref E), some vt, none, o7, o8, o9, o10, o11, none, none] ∧ Gr [p] F0 H F' H' ∧ O84 K C F' H' D y (.ref E) vt kvs ks m s' ∧ PenAt K F' H' p t' ∧ t ≤ t' ∧ t' ≤ t + 40 + 3 * i)
      ⟨none, none, none, none, none, F8, t1, rfl, g08, O8, hp8, u1, by omega⟩ (fun _ _ _ _ _ => True.intro) ?_ ?_
    · rintro i v σ' H9' H9 hi ⟨o7, o8, o9, o10, o11, F9, t9, rfl, g9, O9, hp9, v1, v2⟩ ⟨rfl, rfl⟩
      dsimp only [List.set_cons_zero, List.set_cons_succ]
      have hi12 : i < 12 := hi
      have pickB : ∀ {e : PyData}, e ∈ (allB s'.all).map encB → ∃ b ∈ allB s'.all, e = encB b := fun h => by
        obtain ⟨b, hb, rfl⟩ := List.mem_map.mp h
        exact ⟨b, hb, rfl⟩
      refine ⟨_, rfl, _, rfl, F9, p, vt, _, _, t9, rfl, g9.fh, hp9, by omega, O9.dt, .inr rfl, by rw [List.length_map]; exact pB, by rw [List.length_map]; omega, fun r8 e8 ta Fa Ha em8 hr8 y1 y2 ga hpa => ?_⟩
      obtain ⟨b8, hb8, rfl⟩ := pickB em8
      have Oa := O9.gr ga (fun b hb => by rw [List.mem_singleton.mp hb]; exact hp9.f)
      have g0a : Gr [p] F0 H Fa Ha := g9.trans ga fun b hb => .inl hb
      refine ⟨_, rfl, _, rfl, Fa, p, vt, _, _, ta, rfl, g0a.fh, hpa, by omega, Oa.dt, .inr rfl, by rw [List.length_map]; exact pB, by rw [List.length_map]; omega, fun r9 e9 tb Fb Hb em9 hr9 y3 y4 gb hpb => ?_⟩
      obtain ⟨b9, hb9, rfl⟩ := pickB em9
      have Ob := Oa.gr gb (fun b hb => by rw [List.mem_singleton.mp hb]; exact hpa.f)
      have g0b : Gr [p] F0 H Fb Hb := g0a.trans gb fun b hb => .inl hb
      have k8 := okB hb8
      have k9 := okB hb9
      have T0 : T84 K C F0 H p tb D y (.ref E) vt kvs ks m s' [(r8, b8), (r9, b9)] Fb Hb := ⟨g0b, Ob, hpb, fun x hx => by
        rcases List.mem_cons.mp hx with rfl | hx
        · exact hr8.ex gb.ff
        · rw [List.mem_singleton.mp hx]
          exact hr9⟩
      clear ga gb g0a g0b Oa Ob hpa hpb hr8 hr9 em8 em9 g9 O9 hp9
      refine ⟨_, _, rfl, ?_⟩
      dsimp only [List.set_cons_zero, List.set_cons_succ]
      -- as the law says it
      have i8 : (r8, b8) ∈ [(r8, b8), (r9, b9)] := by simp
      have i9 : (r9, b9) ∈ [(r8, b8), (r9, b9)] := by simp
      have l100 : s'.all.length ≤ 100 := by omega
      refine ⟨_, rfl, _, rfl, _, rfl, Fb, y, s', r8, r9, b8, b9, rfl, T0.g.fh, T0.O.wa, .mk' (T0.d _ i8), .mk' (T0.d _ i9), k8, k9, l100, fun F1 H1 g1 => ?_⟩
      have T1 := T0.gr g1
      clear T0 g1
      refine .mk ⟨_, rfl, ?_⟩
      refine ⟨_, rfl, _, rfl, _, rfl, F1, _, r8, r9, s'.all, b8, b9, rfl, T1.g.fh, T1.O.de, T1.d _ i8, T1.d _ i9, k8, k9, l100, sOk, fun F2 H2 g2 => ?_⟩
      refine .mk ⟨_, rfl, rfl, _, rfl, ?_⟩
      rw [lawThick_eq k8 k9 noE, decide_eq_true rfl]
      have T2 := T1.gr g2
      clear T1 g2
      refine iteF ⟨_, rfl, _, rfl, _, rfl, F2, y, s', r8, r8, b8, b8, rfl, T2.g.fh, T2.O.wa, .mk' (T2.d _ i8), .mk' (T2.d _ i8), k8, k8, l100, fun F3 H3 g3 => ?_⟩
      have T3 := T2.gr g3
      clear T2 g3
      refine ⟨_, _, rfl, rfl, _, rfl, ?_⟩
      rw [thick_refl]
      refine iteNo (by decide) ?_
      -- the thickest, the thinnest one
      refine ⟨_, rfl, Nat.zero_le _, fun c hc => ⟨_, rfl, ?_⟩⟩
      have gc := (Gr.refl (B := []) T3.g.fh).new (o := .tup []) hc
      have dc : TellB K (upd F3 c (.tup [])) (.ref c) [] := .mk' (.tup (.inl (.inl upd_same)) .nil)
      have T4 := T3.gr gc
      generalize upd F3 c (.tup []) = F4 at gc dc T4
      generalize upd H3 c (.tup []) = H4 at gc T4 ⊢
      clear T3 gc hc
      refine ⟨F4, y, s', _, r8, [], b8, rfl, T4.g.fh, T4.O.wa, dc, .mk' (T4.d _ i8), nil_ok _, k8, l100, fun F5 H5 g5 => ?_⟩
      have T5 := T4.gr g5
      clear T4 dc g5
      refine ⟨_, _, rfl, rfl, _, rfl, ?_⟩
      rw [thick_nil]
      refine iteNo (by decide) ?_
      refine ⟨_, rfl, _, rfl, _, rfl, seq_walk T5.O.de (.inl rfl) T5.g.fh fun J xs G w1 hG hxs hlen E2 hE2 => ?_⟩
      refine lc_seqM (bs := s'.all) (enc := .str) (f := fun z => encR [z]) w1 hxs T5.g.fh hG (by omega) (fun z v F' H' hz g1 hv => turn1 rfl fun Yes h => ⟨_, rfl, by show 1 ≤ sizeLine; omega, fun c hc => h _ _ _ ((Gr.refl g1.fh).new hc) (.tup (.inl (.inl upd_same)) (.cons (hv.ex (Ex.new (g1.fh.dm hc))) .nil))⟩) hE2 fun acc F6 H6 g6 fE6 hE6 hacc => ?_
      refine .mk ⟨E2, acc, rfl, .inl ⟨.inl (.inl hE6), fun c hc => ?_⟩⟩
      have g7 := g6.new (o := .tup acc) hc
      have d7 : TellB K (upd F6 c (.tup acc)) (.ref c) (s'.all.map fun z => [z]) := .mk' (.tup (.inl (.inl upd_same)) (by
        rw [List.map_map]
        exact hacc.ex (Ex.new (g6.fh.dm hc))))
      have T7 := T5.gr g7
      generalize upd F6 c (.tup acc) = F7 at g7 d7 T7
      generalize upd H6 c (.tup acc) = H7 at g7 T7 ⊢
      clear T5 g6 g7 hE6 fE6 hacc hc hE2
      refine ⟨F7, y, s', r8, _, b8, _, rfl, T7.g.fh, T7.O.wa, .mk' (T7.d _ i8), d7, k8, singles_ok ok'.an, l100, fun F8 H8 g8 => ?_⟩
      have T8 := T7.gr g8
      clear T7 d7 g8
      refine ⟨_, _, rfl, rfl, _, rfl, ?_⟩
      rw [thick_single k8.sub]
      refine iteNo (by decide) ?_
      -- an order
      have st8 : ∀ g ∈ b8, ∀ z ∈ g, PyData.strOk z = true := fun g hg z hz => sOk z (k8.sub z (List.mem_flatten.mpr ⟨g, hg, hz⟩))
      have st9 : ∀ g ∈ b9, ∀ z ∈ g, PyData.strOk z = true := fun g hg z hz => sOk z (k9.sub z (List.mem_flatten.mpr ⟨g, hg, hz⟩))
      unfold tNext tSeq tIfS
      dsimp only
      refine no_test (fun H' => ∃ F', T84 K C F0 H p tb D y (.ref E) vt kvs ks m s' [(r8, b8), (r9, b9)] F' H') (fun Q no => ?_) fun H9 ⟨F9, T9⟩ => iteF ?_
      · refine ⟨_, rfl, _, rfl, .mk ⟨_, _, (T8.d _ i8).sees T8.g.fh, (T8.d _ i9).sees T8.g.fh, shaped_B st8, shaped_B st9, _, rfl, ?_⟩⟩
        by_cases c : (!PyData.eqv (encB b8) (encB b9)) = true
        · refine iteYes c ⟨_, rfl, _, rfl, _, rfl, F8, y, s', r8, r9, b8, b9, rfl, T8.g.fh, T8.O.wa, .mk' (T8.d _ i8), .mk' (T8.d _ i9), k8, k9, l100, fun F9 H9 g9 => ⟨_, rfl, ?_⟩⟩
          have T9 := T8.gr g9
          by_cases c2 : thick b8 b9 = true
          · refine iteYes c2 ⟨_, rfl, _, rfl, _, rfl, F9, y, s', r9, r8, b9, b8, rfl, T9.g.fh, T9.O.wa, .mk' (T9.d _ i9), .mk' (T9.d _ i8), k9, k8, l100, fun F10 H10 g10 => ⟨_, rfl, ?_⟩⟩
            have T10 := T9.gr g10
            have c3 : thick b9 b8 = false := by
              cases e : thick b9 b8 with
              | false => rfl
              | true =>
                have z := thick_anti pw hb8 hb9 c2 e
                subst z
                rw [SeqAt.eqv_refl _ (SeqAt.canLay_of_shaped (shaped_B st8))] at c
                cases c
            rw [c3]
            exact no _ ⟨F10, T10⟩
          · rw [Bool.not_eq_true] at c2
            rw [c2]
            exact iteF (no _ ⟨F9, T9⟩)
        · rw [Bool.not_eq_true] at c
          rw [c]
          exact iteF (no _ ⟨F8, T8⟩)
      clear T8
      -- a third one
      refine ⟨_, rfl, _, rfl, F9, p, vt, _, _, tb, rfl, T9.g.fh, T9.hp, by omega, T9.O.dt, .inr rfl, by rw [List.length_map]; exact pB, by rw [List.length_map]; omega, fun r10 e10 tc F10 H10 em10 hr10 y5 y6 g10 hp10 => ?_⟩
      obtain ⟨b10, hb10, rfl⟩ := pickB em10
      have T10 : T84 K C F0 H p tc D y (.ref E) vt kvs ks m s' [(r8, b8), (r9, b9), (r10, b10)] F10 H10 := ⟨T9.g.trans g10 fun b hb => .inl hb, T9.O.gr g10 (fun b hb => by rw [List.mem_singleton.mp hb]; exact T9.hp.f), hp10, fun x hx => by
        simp only [List.mem_cons, List.not_mem_nil, or_false] at hx
        rcases hx with rfl | rfl | rfl
        · exact (T9.d _ i8).ex g10.ff
        · exact (T9.d _ i9).ex g10.ff
        · exact hr10⟩
      have k10 := okB hb10
      clear T9 i8 i9 g10 hp10 em10 hr10
      have i8 : (r8, b8) ∈ [(r8, b8), (r9, b9), (r10, b10)] := by simp
      have i9 : (r9, b9) ∈ [(r8, b8), (r9, b9), (r10, b10)] := by simp
      have i10 : (r10, b10) ∈ [(r8, b8), (r9, b9), (r10, b10)] := by simp
      unfold gName
      dsimp only [List.set_cons_zero, List.set_cons_succ]
      refine no_test (fun H' => ∃ F', T84 K C F0 H p tc D y (.ref E) vt kvs ks m s' [(r8, b8), (r9, b9), (r10, b10)] F' H') (fun Q no => ?_) fun H11 ⟨F11, T11⟩ => iteF ?_
      · refine ⟨_, rfl, _, rfl, _, rfl, F10, y, s', r8, r9, b8, b9, rfl, T10.g.fh, T10.O.wa, .mk' (T10.d _ i8), .mk' (T10.d _ i9), k8, k9, l100, fun F11 H11 g11 => ⟨_, rfl, ?_⟩⟩
        have T11 := T10.gr g11
        by_cases c1 : thick b8 b9 = true
        · refine iteYes c1 ⟨_, rfl, _, rfl, _, rfl, F11, y, s', r9, r10, b9, b10, rfl, T11.g.fh, T11.O.wa, .mk' (T11.d _ i9), .mk' (T11.d _ i10), k9, k10, l100, fun F12 H12 g12 => ⟨_, rfl, ?_⟩⟩
          have T12 := T11.gr g12
          by_cases c2 : thick b9 b10 = true
          · refine iteYes c2 ⟨_, rfl, _, rfl, _, rfl, F12, y, s', r8, r10, b8, b10, rfl, T12.g.fh, T12.O.wa, .mk' (T12.d _ i8), .mk' (T12.d _ i10), k8, k10, l100, fun F13 H13 g13 => ⟨_, rfl, ?_⟩⟩
            rw [thick_trans c1 c2]
            exact no _ ⟨F13, T12.gr g13⟩
          · rw [Bool.not_eq_true] at c2
            rw [c2]
            exact iteF (no _ ⟨F12, T12⟩)
        · rw [Bool.not_eq_true] at c1
          rw [c1]
          exact iteF (no _ ⟨F11, T11⟩)
      clear T10
      -- the groups turned
      refine ⟨_, rfl, seq_walk (show Dp K F11 r8 (.tuple (b8.map encR)) from T11.d _ i8) (.inr rfl) T11.g.fh fun J xs G w1 hG hxs hlen E2 hE2 => ?_⟩
      refine lc_seqM (bs := b8) (enc := encR) (f := encLG) w1 hxs T11.g.fh hG (by have := k8.few; omega) (fun g z F' H' hg g1 hz => turn1 rfl fun Yes h => ⟨_, rfl, list_dp (show Dp K F' z (.tuple (g.map .str)) from hz) (.inr rfl) g1.fh fun l ys F2 H2 g2 hl fl hlc hys => h _ _ _ (g2.done hl fl hlc) (.lst (.inl (.inl upd_same)) (hys.ex (Ex.new fl)))⟩) hE2 fun acc aF aH ag af ah aacc => ?_
      refine ⟨E2, acc, rfl, .inl (.inl ah), fun al an => ?_⟩
      have ag2 := ag.new (o := .lst acc.reverse) an
      have ad : TellB K (upd aF al (.lst acc.reverse)) (.ref al) b8.reverse := ⟨_, .list, .lst (.inl (.inl upd_same)) (told_rev (aacc.ex (Ex.new (ag.fh.dm an)))), .inl rfl, fun l => .inl rfl⟩
      have aT := T11.gr ag2
      generalize upd aF al (.lst acc.reverse) = aF1 at ag2 ad aT
      generalize upd aH al (.lst acc.reverse) = aH1 at ag2 aT ⊢
      clear T11 ag2 ag ah af aacc hE2
      have kr8 : BlOk s'.all b8.reverse := k8.perm (List.reverse_perm b8)
      have kr9 : BlOk s'.all b9.reverse := k9.perm (List.reverse_perm b9)
      refine ⟨_, rfl, _, rfl, aF1, y, s', _, b8.reverse, rfl, aT.g.fh, aT.O.wa, aT.O.fr, wok, ad, kr8, l100, fun y2 s2 F14 H14 bh g14 hw2 hf2 => ?_⟩
      have T14 := aT.gr g14
      have ad14 := ad.up g14.ff
      obtain ⟨⟨dx2, D2m, _, _, _, hx2, _⟩, ok2⟩ := id hw2
      refine ⟨y2, dx2, _, rfl, sees_i g14.fh hx2, F14, y2, s2, rfl, g14.fh, hw2, hf2, by rw [bh.ks.length_eq]; have := wok.few; omega, fun D5 kvs5 F15 H15 g15 f5 h5 t5' => ?_⟩
      have T15 := T14.gr g15
      have ad15 := ad14.up g15.ff
      clear aT ad T14 ad14 g14 g15 hf2 hx2
      -- the law's
      refine ⟨D, _, T15.O.hD, True.intro, fun od => ?_⟩
      have na : upd H15 D (.frz od (.dK kvs)) D = some (.frz od (.dK kvs)) := upd_same
      refine ⟨_, rfl, D, od, rfl, .inl ⟨kvs, na, fun E3 hE3 => ?_⟩⟩
      refine prs (K := K) (g := gName 13) (vs := [13]) (te := tTup (tCons (tVar 13) (tCons (tCB (rTupD K) (tCons (tCB (rSortedQ K) (tCons (tDGet (tVar 2) (tVar 13)) tNil)) tNil)) tNil))) (σ := [some (.ref p), some (.int many), some (.ref D), some (.ref y), some (.ref E), some vt, none, some (.int (0 + (i : Int))), some r8, some r9, some r10, some (.ref al), none, none]) (ks := ks) (m := fun k => (m k).mergeSort (PySem.W.dataLe false eS)) (enc := .tuple) (by rw [← tells_len T15.O.tl]; exact walk_keys) (sees_lock T15.g.fh T15.O.fD) (fun F' H' g => g.at na) (by have := okm.few; omega) okm.nd (fun i k x F' H' H'' hk gr yy => ?_) (fun k F' H' hk g1 => ?_) hE3 fun as kvs6 F16 H16 g16 fE16 hE16 pr t16 => ?_
      · obtain ⟨rfl, k', v', e1, rfl⟩ := yy
        rw [tells_at T15.O.tl e1 hk]
        exact ⟨rfl, rfl⟩
      · obtain ⟨u, u1', u2'⟩ := T15.O.tl.va k hk
        obtain ⟨la, xs, rfl, hls, hlx⟩ := dp_list (u2'.ex g1.ff)
        refine turn1 rfl fun Yes h => ⟨_, rfl, _, rfl, _, rfl, D, .ref la, rfl, .inl ⟨kvs, Sum.inr k, .inr ⟨od, g1.at na⟩, rfl, u1'.symm⟩, Str, eS, m k, la, xs, F', rfl, g1.fh, .inl (sees_l g1.fh hls), hlx, alikeS _, sortableS _, fun b _ => eS_depth b, fun ys l hys hl => .mk ⟨l, ys, rfl, .inl ⟨.inl (.inl upd_same), fun l2 hl2 => ⟨by show 2 ≤ sizeLine; omega, fun tt htt => ?_⟩⟩⟩⟩
        have g2 := (((Gr.refl (B := []) g1.fh).newM (o := .lst ys) hl).new (o := .tup ys) hl2).new (o := .tup [.str k, .ref l2]) htt
        exact h _ _ _ g2 ⟨tt, .ref l2, rfl, upd_same, .tup (.inl (.inl (by rw [upd_ne (ne_of_none (upd_same : upd (upd H' l (.lst ys)) l2 (.tup ys) l2 = _) htt)]; exact upd_same))) (hys.ex g2.ff)⟩
      refine ⟨g16.at na, ?_⟩
      have gU := Gr.unlock T15.O.fD T15.O.hD g16
      have nED : E3 ≠ D := ne_of hE16 (g16.at na) (fun z => nomatch z)
      have hE17 : upd H16 D (.dK kvs) E3 = some (.lst (as.map V.ref)) := by rw [upd_ne nED]; exact hE16
      have T17 := T15.gr gU
      have ad17 := ad15.up gU.ff
      have h57 := gU.at h5
      have w27 := hw2
      generalize upd H16 D (.dK kvs) = H17 at gU hE17 T17 h57 ⊢
      refine ⟨E3, as, kvs6, rfl, .inl (.inl hE17), pd_up (fun t kv h => sees_t T17.g.fh (.inl (.inl h))) pr, fun E4 hE4 => ?_⟩
      have ndk : (kvs6.map (·.1)).Nodup := by rw [t16.ke]; exact List.pairwise_map.mpr (okm.nd.imp fun n z => n (Sum.inr.inj z))
      rw [mergeK_nil ndk]
      have g18 := (Gr.refl (B := []) T17.g.fh).new (o := .dK kvs6) hE4
      have T18 := T17.gr g18
      have ad18 := ad17.up g18.ff
      have h58 := g18.at h57
      have f58 := g18.ff _ _ (gU.ff _ _ f5)
      have t58 := (t5'.ex gU.ff).ex g18.ff
      have t18 := t16.ex g18.ff
      have fE18 : upd F16 E4 (.dK kvs6) E4 = some (.dK kvs6) := upd_same
      have hE18 : upd H17 E4 (.dK kvs6) E4 = some (.dK kvs6) := upd_same
      generalize upd F16 E4 (.dK kvs6) = F18 at g18 T18 ad18 f58 t58 t18 fE18
      generalize upd H17 E4 (.dK kvs6) = H18 at g18 T18 h58 hE18 ⊢
      clear T17 T15 g16 gU g18 ad17 ad15 pr t16 hE17 h57 h5 f5 t5' hE4 hE3 hE16 fE16 na
      refine ⟨_, rfl, F18, E4, kvs6, ks, _, r8, b8, rfl, T18.g.fh, fE18, hE18, t18, by have := okm.few; omega, okm.nd, fun k hk => by rw [List.length_mergeSort]; have := okm.six k hk; omega, T18.d _ i8, k8.nd, by have := k8.flat; omega, fun D6 kvs7 F19 H19 g19 f6 h6 t6' => ?_⟩
      have T19 := T18.gr g19
      have ad19 := ad18.up g19.ff
      have strs2 : ∀ k ∈ s2.ks, s2.m k = imgS b8 ((m k).mergeSort (PySem.W.dataLe false eS)) ∧ ∀ z ∈ s2.m k, PyData.strOk z = true := fun k hk => by
        have hk' := bh.ks.mem_iff.mp hk
        have hk2 := wk.mem_iff.mp hk'
        have mm := bh.mem k hk'
        refine ⟨slt_eq (bh.pw k hk') (imgS_pw _ _) fun z => ?_, fun z hz => ?_⟩
        · rw [mm z, imgS_mem, List.mem_map]
          have pm : ∀ a, a ∈ s'.m k ↔ a ∈ (m k).mergeSort (PySem.W.dataLe false eS) := fun a => by rw [(wm k hk2).mem_iff, (List.mergeSort_perm _ _).mem_iff]
          constructor
          · rintro ⟨a, h1, h2⟩
            exact ⟨a, (pm a).mp h1, by rw [h2, nameD_perm k8.nd (List.reverse_perm b8)]⟩
          · rintro ⟨a, h1, h2⟩
            exact ⟨a, (pm a).mpr h1, by rw [← h2, nameD_perm k8.nd (List.reverse_perm b8)]⟩
        · obtain ⟨a, h1, rfl⟩ := (mm z).mp hz
          rcases nameD_in kr8 a with e | e
          · rw [e]; decide +kernel
          · exact sOk _ e
      obtain ⟨few2, alike2⟩ := alike_tells T19.g.fh (t58.ex g19.ff) t6' (bh.ks.trans wk) strs2 ok2.nd
      refine .mk ⟨D5, D6, kvs5, kvs7, rfl, rfl, g19.at h58, h6, few2, alike2, _, rfl, iteF ?_⟩
      clear T18 g19 ad18 t58 t6' strs2 few2 alike2 h58 h6 f6 f58 t18 fE18 hE18 hw2 w27 bh
      -- turned about
      refine ⟨_, rfl, _, rfl, _, rfl, seq_walk (show Dp K F19 r9 (.tuple (b9.map encR)) from T19.d _ i9) (.inr rfl) T19.g.fh fun J xs G w1 hG hxs hlen E2 hE2 => ?_⟩
      refine lc_seqM (bs := b9) (enc := encR) (f := encLG) w1 hxs T19.g.fh hG (by have := k9.few; omega) (fun g z F' H' hg g1 hz => turn1 rfl fun Yes h => ⟨_, rfl, list_dp (show Dp K F' z (.tuple (g.map .str)) from hz) (.inr rfl) g1.fh fun l ys F2 H2 g2 hl fl hlc hys => h _ _ _ (g2.done hl fl hlc) (.lst (.inl (.inl upd_same)) (hys.ex (Ex.new fl)))⟩) hE2 fun acc bF bH bg bf bh bacc => ?_
      refine ⟨E2, acc, rfl, .inl (.inl bh), fun bl bn => ?_⟩
      have bg2 := bg.new (o := .lst acc.reverse) bn
      have bd : TellB K (upd bF bl (.lst acc.reverse)) (.ref bl) b9.reverse := ⟨_, .list, .lst (.inl (.inl upd_same)) (told_rev (bacc.ex (Ex.new (bg.fh.dm bn)))), .inl rfl, fun l => .inl rfl⟩
      have bT := T19.gr bg2
      have bad := ad19.up bg2.ff
      generalize upd bF bl (.lst acc.reverse) = bF1 at bg2 bd bT bad
      generalize upd bH bl (.lst acc.reverse) = bH1 at bg2 bT ⊢
      refine ⟨bF1, y, s', _, _, b8.reverse, b9.reverse, rfl, bT.g.fh, bT.O.wa, bad, bd, kr8, kr9, l100, fun F20 H20 g20 => ?_⟩
      have T20 := bT.gr g20
      rw [thick_perm (List.reverse_perm b8) (List.reverse_perm b9)]
      refine ⟨_, rfl, _, rfl, _, rfl, F20, y, s', r8, r9, b8, b9, rfl, T20.g.fh, T20.O.wa, .mk' (T20.d _ i8), .mk' (T20.d _ i9), k8, k9, l100, fun F21 H21 g21 => ?_⟩
      have T21 := T20.gr g21
      refine ⟨rfl, _, rfl, ?_⟩
      rw [decide_eq_true rfl]
      exact iteF ⟨_, _, _, _, _, F21, tc, rfl, T21.g, T21.O, T21.hp, by omega, by omega⟩
    · rintro σ' H9 ⟨o7, o8, o9, o10, o11, F9, t9, rfl, g9, O9, hp9, v1, v2⟩
      have l100 : s'.all.length ≤ 100 := by omega
      -- all marks alone
      refine ⟨_, rfl, _, rfl, seq_walk O9.de (.inl rfl) g9.fh fun J xs G w1 hG hxs hlen E2 hE2 => ?_⟩
      refine lc_seqM (bs := s'.all) (enc := .str) (f := fun z => encLG [z]) w1 hxs g9.fh hG (by omega) (fun z v F' H' hz g1 hv => turn1 rfl fun Yes h => ⟨_, rfl, by show 1 ≤ sizeLine; omega, fun c hc => h _ _ _ ((Gr.refl g1.fh).new hc) (.lst (.inl (.inl upd_same)) (.cons (hv.ex (Ex.new (g1.fh.dm hc))) .nil))⟩) hE2 fun acc F10 H10 g10 fE10 hE10 hacc => ?_
      have g11 := g10.done hE2 fE10 hE10
      have d11 : TellB K (upd F10 E2 (.lst acc)) (.ref E2) (s'.all.map fun z => [z]) := ⟨_, .list, .lst (.inl (.inl upd_same)) (hacc.ex (Ex.new fE10)), .inl (by rw [List.map_map]; rfl), fun l => .inl rfl⟩
      have O11 := O9.gr g11
      have hp11 := hp9.gr g11 (by simp)
      have g011 : Gr [p] F0 H _ H10 := g9.trans g11 fun b hb => absurd hb (by simp)
      generalize upd F10 E2 (.lst acc) = F11 at g11 d11 O11 hp11 g011
      clear g10 hacc hE10 fE10 hE2 O9 hp9 g9 g11
      refine ⟨F11, y, s', _, _, rfl, g011.fh, O11.wa, O11.fr, wok, d11, singles_ok ok'.an, l100, fun y2 s2 F12 H12 bh g12 hw2 hf2 => ?_⟩
      have O12 := O11.gr g12
      have hp12 := hp11.gr g12 (by simp)
      have g012 : Gr [p] F0 H F12 H12 := g011.trans g12 fun b hb => absurd hb (by simp)
      clear O11 hp11 g011 g12 d11
      obtain ⟨⟨dx2, _, _, _, _, hx2, _⟩, ok2⟩ := id hw2
      obtain ⟨⟨dx1, _, _, _, _, hx1, _⟩, _⟩ := id O12.wa
      have smnd : ∀ k ∈ s'.ks, (s'.m k).Nodup := fun k hk => (wm k (wk.mem_iff.mp hk)).nodup_iff.mpr (okm.mnd k (wk.mem_iff.mp hk))
      have inS : ∀ k ∈ s'.ks, ∀ a ∈ s'.m k, a = "" ∨ a ∈ s'.all := fun k hk a ha => by
        by_cases e : a = ""
        · exact .inl e
        · exact .inr ((ok'.al a).mpr ⟨e, k, hk, ha⟩)
      have same : SameW K C y2 y H12 := ⟨F12, s2, s', g012.fh, hw2, O12.wa, hf2, O12.fr, bh.ks, fun k hk => by
        have hk' := bh.ks.mem_iff.mp hk
        have mm := bh.mem k hk'
        have nm : ∀ a ∈ s'.m k, nameD (s'.all.map fun z => [z]) a = a := fun a ha => by
          rw [nameD_single ok'.an]
          rcases inS k hk' a ha with rfl | h
          · rw [if_neg noE]
          · rw [if_pos h]
        refine ⟨slt_eq (bh.pw k hk') (slt_sorted (ok'.ms k hk') (smnd k hk')) fun z => ?_, fun z hz => ?_⟩
        · rw [mm z]
          exact ⟨fun ⟨a, h1, h2⟩ => by rw [h2, nm a h1]; exact h1, fun h => ⟨z, h, (nm z h).symm⟩⟩
        · obtain ⟨a, h1, rfl⟩ := (mm z).mp hz
          rw [nm a h1]
          rcases inS k hk' a h1 with rfl | h
          · decide +kernel
          · exact sOk a h⟩
      refine ⟨_, rfl, ⟨y2, y, dx2, dx1, _, _, rfl, rfl, sees_i g012.fh hx2, sees_i g012.fh hx1, same⟩, fun H13 ext => ⟨_, rfl, iteT ?_⟩⟩
      have g13 := Gr.ext g012.fh ext
      have O13 := O12.gr g13
      have hp13 := hp12.gr g13 (by simp)
      have g013 : Gr [p] F0 H F12 H13 := g012.trans g13 fun b hb => absurd hb (by simp)
      clear O12 hp12 g012 g13 same ext hx1 hx2 hw2 hf2 bh ok2
      -- none at all
      refine ⟨_, rfl, Nat.zero_le _, fun c hc => ?_⟩
      have gc := (Gr.refl (B := []) g013.fh).new (o := .lst []) hc
      have dc : TellB K (upd F12 c (.lst [])) (.ref c) [] := ⟨_, .list, .lst (.inl (.inl upd_same)) .nil, .inl rfl, fun l => .inl rfl⟩
      have O14 := O13.gr gc
      have hp14 := hp13.gr gc (by simp)
      have g014 : Gr [p] F0 H _ _ := g013.trans gc fun b hb => absurd hb (by simp)
      generalize upd F12 c (.lst []) = F14 at gc dc O14 hp14 g014
      generalize upd H13 c (.lst []) = H14 at gc O14 hp14 g014 ⊢
      refine ⟨F14, y, s', _, [], rfl, g014.fh, O14.wa, O14.fr, wok, dc, nil_ok _, l100, fun y3 s3 F15 H15 bh3 g15 hw3 hf3 => ?_⟩
      have hp15 := hp14.gr g15 (by simp)
      have g015 : Gr [p] F0 H F15 H15 := g014.trans g15 fun b hb => absurd hb (by simp)
      obtain ⟨⟨dx3, _, _, va3, _, hx3, _, _, hva3⟩, ok3⟩ := id hw3
      have none3 : s3.all = [] := by
        refine List.eq_nil_iff_forall_not_mem.mpr fun z hz => ?_
        obtain ⟨n, k, hk, hzk⟩ := (ok3.al z).mp hz
        obtain ⟨a, _, e⟩ := (bh3.mem k (bh3.ks.mem_iff.mp hk) z).mp hzk
        exact n e
      rw [none3] at hva3
      refine ⟨y3, C, dx3, _, _, rfl, sees_i g015.fh hx3, TW_.cl, TW_.nA, rfl, Nat.zero_le _, fun c2 hc2 => ?_⟩
      have gE := (Gr.refl (B := []) g015.fh).newM (o := .tup []) hc2
      refine .mk ⟨.tuple [], .tuple [], hva3.sees gE.fh, .tup (.inl (.inl upd_same)) .nil, rfl, rfl, ?_⟩
      rw [SeqAt.eqv_refl _ rfl]
      exact q t9 _ _ (by omega) (by omega) (g015.trans gE fun b hb => absurd hb (by simp)) (hp15.gr gE (by simp))
end
end TW
set_option Elab.async false
set_option linter.all false
set_option maxRecDepth 100000
set_option maxHeartbeats 8000000
/-! k84: the law -/
namespace TW
open PySem PySem.Spec PyProof.Rows L2 RZ StX
open Evl (Ex)
def spLaw (K : PySem.W.Frag) : Sp := fun vs H Q _ => ∃ (a : Addr) (ns : List Int), vs = [.ref a] ∧ SqL K H a (ns.map V.int) ∧ ns.length ≤ 63 ∧ ∀ H', Q (.bl true) H'
section
variable {P : Program} {w : World} {K : PySem.W.Frag} {mg : Str → Option Value} {base : Heap}
theorem ok_law84 {f : Addr} {fd : FuncData} (F : Fun K "law" "law" s_law f fd) (T : Txt mg) (C__law_pen : Cal P w K mg base "_law_pen" 1 ["script"] [] (spPen K)) (C__law_one_right : Cal P w K mg base "_law_one_right" 8 ["pen", "many"] [] (spOne84 K)) (C__law_counted_right : Cal P w K mg base "_law_counted_right" 6 [] [] (spCounted K)) :
    FnOk P w K mg base CX0 9 f fd ["script"] (spLaw K) := by
  refine F.ok sc_law (fun vs H Q E h => ?_) (fun cdv A outer s H vs Q E hr h => ?_)
  · obtain ⟨a, ns, rfl, _⟩ := h
    rfl
  · obtain ⟨a, ns, rfl, hS, _, q⟩ := h
    have hu := hu_of hr
    have hu64 := hr.units
    have lz : 100000 < sizeLine := by rw [sizeLine_eq]; decide
    refine ⟨_, (pss_cons (zs (i := 1) sc_law.nd (pe_cal C__law_pen (hr.mono (by decide)) (pa_cons (pv 0) pa_nil)))
      (pss_one (ps_ret (pe_and (pe_cmpR (op_eqDD K hu64) (pe_lc (own := [("many", 2)]) rfl sc_law.nd (zseq K (pe_tup (pa_cons pe_int (pa_cons pe_int (pa_cons pe_int (pa_cons pe_int (pa_cons pe_int (pa_cons pe_int pa_nil)))))))) (blkOk_by (N := sc_lawN) (sc := defScope s_law) (by decide +kernel)) (fun _ _ _ _ _ => (zg (i := 2) sc_law.nd)) (fun _ _ _ _ _ => (pts_one (pt_not (pt_val (pe_cal C__law_one_right (hr.mono (by decide)) (pa_cons (pv 1) (pa_cons (pv 2) pa_nil))))))) (fun _ _ _ _ _ => (pv 2))) (pe_lst pa_nil) (nomark _)) (pe_one (pe_cal0 C__law_counted_right (hr.mono (by decide)))))))), ?_⟩
    refine ⟨_, rfl, H, .ref a, ns, rfl, ex_sees (Ex.refl H), .lst hS (dps_int.mpr rfl), fun p F1 H1 np g1 hp1 => ?_⟩
    refine ⟨by show 6 ≤ sizeLine; omega, fun tp htp => ?_⟩
    obtain ⟨oC, hoC⟩ := hp1.at
    have gT := (Gr.refl (B := []) g1.fh).new (o := .tup [.int 0, .int 1, .int 2, .int 3, .int 4, .int 5]) htp
    have dT : Dp K (upd F1 tp (.tup [.int 0, .int 1, .int 2, .int 3, .int 4, .int 5])) (.ref tp) (.tuple ([0, 1, 2, 3, 4, 5].map PyData.int)) := .tup (.inl (.inl upd_same)) (dps_int.mpr rfl)
    have hpT := hp1.gr gT (by simp)
    generalize upd F1 tp (.tup [.int 0, .int 1, .int 2, .int 3, .int 4, .int 5]) = F2 at gT dT hpT
    generalize upd H1 tp (.tup [.int 0, .int 1, .int 2, .int 3, .int 4, .int 5]) = H2 at gT hpT ⊢
    clear g1 hp1 hoC oC
    obtain ⟨oC, hoC⟩ := hpT.at
    refine seq_walk dT (.inr rfl) gT.fh fun J xs G w1 hG hxs hlen D hD => ?_
    refine lc_stQ (B := [p]) w1 gT.fh (fun b hb => by rw [List.mem_singleton.mp hb, hoC]; exact fun z => nomatch z) (fun i acc F' H' => ∃ t' : Int, PenAt K F' H' p t' ∧ t' ≤ 100 * i ∧ acc = [])
      (fun i acc F' H' E o ⟨t', q1, q2⟩ hEn => ⟨t', q1.upd' (ne_of_none hoC hEn), q2⟩) (fun i acc F' H' _ gr _ => hG H' fun a o e => gr.fh a o (gr.ff a o e)) ⟨0, hpT, by omega, rfl⟩ (by rw [hlen]; decide) (fun i acc x F' H' H'' hi hl gr ⟨t', q1, q2, q3⟩ yy => ?_) hD fun acc F' H' gr fD hDc ⟨t', q1, q2, q3⟩ => ?_
    · obtain ⟨rfl, hxi⟩ := yy
      obtain ⟨dd, e1, e2⟩ := hxs.get hxi
      rw [List.getElem?_map] at e1
      obtain ⟨z, hz, rfl⟩ := Option.map_eq_some_iff.mp e1
      rw [dp_int] at e2
      subst e2
      obtain ⟨m, rfl, m5⟩ : ∃ m : Nat, z = (m : Int) ∧ m ≤ 5 := by
        have := List.mem_of_getElem? hz
        rcases this with _ | ⟨_, this⟩
        · exact ⟨0, rfl, by omega⟩
        rcases this with _ | ⟨_, this⟩
        · exact ⟨1, rfl, by omega⟩
        rcases this with _ | ⟨_, this⟩
        · exact ⟨2, rfl, by omega⟩
        rcases this with _ | ⟨_, this⟩
        · exact ⟨3, rfl, by omega⟩
        rcases this with _ | ⟨_, this⟩
        · exact ⟨4, rfl, by omega⟩
        rcases this with _ | ⟨_, this⟩
        · exact ⟨5, rfl, by omega⟩
        cases this
      have i6 : i < 6 := by rw [hlen] at hi; exact hi
      refine ⟨F', Gr.refl gr.fh, fun Yes No n0 n1 => ⟨rfl, _, rfl, _, rfl, F', p, m, t', rfl, gr.fh, q1, by omega, m5, fun t2 F3 H3 u1 u2 g3 q4 => ?_⟩⟩
      exact ⟨true, rfl, n0 F3 H3 g3 ⟨t2, q4, by omega, q3⟩⟩
    · subst q3
      have gd := gr.done hD fD hDc
      have dD : Dp K (upd F' D (.lst [])) (.ref D) (.list (([] : List Int).map .int)) := .lst (.inl (.inl upd_same)) .nil
      refine ⟨Nat.zero_le _, fun c hc => ?_⟩
      have gc := (Gr.refl (B := []) gd.fh).new (o := .lst []) hc
      refine eq_nilI (dD.ex gc.ff |>.sees gc.fh) upd_same ?_
      refine ⟨true, rfl, upd F' D (.lst []) |> fun F4 => upd F4 c (.lst []), rfl, gc.fh, fun F5 H5 g5 => q H5⟩
end
end TW
set_option Elab.async false
set_option linter.all false
set_option maxRecDepth 100000
set_option maxHeartbeats 4000000
/-! the head of a law, for promises of TW (guards known) -/
namespace TW
open PySem PySem.Spec PyProof.Rows L2
/-- the law called, behind the top -/
theorem head_call {P : Program} {w : World} {K : PySem.W.Frag} {mg mb : Str → Option Value} {k : Nat} {fa a : Addr} {fd : FuncData} {x : Str} {sp : Sp} {s1 : Shared} {vs : List Value} {ns : List Int}
    (inK : K.In s1.heap) (nsM : s1.heap.Ns mainGlobals mg) (nsB : s1.heap.Ns builtinsNs mb) (bts : ∀ y : Str, y ≠ "__name__" → mb y = bootBuiltins y) (lim : s1.heap.NoLimit) (gens : s1.gens = #[])
    (obj : s1.heap.get? a = some { cls := .type "list", data := .seq vs.toArray }) (are : IntsAre vs ns) (len : ns.length ≤ sizeLine) (room : Room k callerA)
    (ok : ∀ b : Heap, K.In b → b.Ns mainGlobals mg → FnOk P w K mg b CX0 k fa fd [x] sp) (bind : ∀ (s : Shared) (u : Value), BindsTo s fd ⟨[u], []⟩ [(x, u)])
    (hsp : ∀ G : Hp, Only G → SqL K G a (ns.map V.int) → sp [.ref a] G (fun v _ => v = .bl true) fun _ _ _ => False) :
    codeAny (model P w) callerA (.call (.ref fa) ⟨[.ref a], []⟩) (fun r t => r = .ok (.ret (.bool true)) ∧ OldK s1.heap t.heap ∧ t.os = s1.os ∧ AllBare t.gens) s1 := by
  have rel := vals_ints are
  have lv := are.length
  suffices main : ∀ G : Hp, Only G → SqL K G a (ns.map V.int) → HOk P w G s1.heap → (∀ c, G c ≠ none → c = a ∧ K.lookup a = none) →
      codeAny (model P w) callerA (.call (.ref fa) ⟨[.ref a], []⟩) (fun r t => r = .ok (.ret (.bool true)) ∧ OldK s1.heap t.heap ∧ t.os = s1.os ∧ AllBare t.gens) s1 by
    cases lk : K.lookup a with
    | some o =>
      have there := inK a o lk
      rw [obj] at there
      cases there
      exact main (fun _ => none) (fun _ => .inl rfl) (.inr ⟨_, vs.toArray, _, lk, rfl, rfl, rfl, by rw [List.size_toArray, lv]; exact len, by simpa using rel⟩)
        (fun c u z => nomatch (show (none : Option HO) = some u from z)) fun c z => absurd rfl z
    | none =>
      refine main (fun c => if c = a then some (.frz { cls := .type "list", data := .seq vs.toArray } (.lst (ns.map V.int))) else none)
        (fun c => (Decidable.em (c = a)).elim (fun e => .inr ⟨_, _, if_pos e⟩) fun e => .inl (if_neg e)) (.inl (.inr ⟨{ cls := .type "list", data := .seq vs.toArray }, if_pos rfl⟩)) (fun c u z => ?_) fun c z => ⟨?_, lk⟩
      · by_cases e : c = a
        · have z := (if_pos e).symm.trans z
          cases z
          subst e
          exact ⟨obj, by rw [List.length_map]; exact len, vs, _, rel, obj⟩
        · have z := (if_neg e).symm.trans z
          cases z
      · by_cases e : c = a
        · exact e
        · exact absurd (if_neg e) z
  intro G only sq hok own
  have notA : ∀ {c : Addr}, c ≠ a → G c = none := fun {c} ne => Decidable.byContradiction fun h => ne (own c h).1
  have hid : ∀ {c : Addr} {o : Obj}, s1.heap.get? c = some o → c ≠ a → (hidT s1.heap G).get? c = some o := fun e ne => hidT_get e (notA ne)
  have dictNe : ∀ {c : Addr} {o : Obj} {es : Array DictEntry} {ep : Nat}, s1.heap.get? c = some o → o.data = .dict es ep → c ≠ a := by
    intro c o es ep e dd z
    rw [z, obj] at e
    cases e
    exact nomatch (show Data.seq vs.toArray _ = Data.dict es ep from dd)
  have nsH : ∀ {c : Addr} {m : Str → Option Value}, s1.heap.Ns c m → (hidT s1.heap G).Ns c m := by
    rintro c m ⟨o, es, ep, e, dd, r⟩
    exact ⟨o, es, ep, hid e (dictNe e dd), dd, r⟩
  have inH : K.In (hidT s1.heap G) := by
    intro c o e
    refine hidT_get (inK c o e) (Decidable.byContradiction fun h => ?_)
    obtain ⟨z, nl⟩ := own c h
    rw [z, nl] at e
    cases e
  have limH : (hidT s1.heap G).NoLimit := by
    obtain ⟨mc, l1, l2⟩ := lim
    exact ⟨mc, nsH l1, l2⟩
  have modH : Mod K mg (hidT s1.heap G) := ⟨inH, nsH nsM, ⟨mb, nsH nsB, bts⟩, limH⟩
  have env : Env0 P w K mg (hidT s1.heap G) callerA [] s1 G :=
    ⟨rfl, modH, fun c o e => of_hidT e, Nat.le_of_eq (hidT_size _ _), trivial, fun c hc => absurd (show c ∈ ([] : List Addr) from hc) (by simp), hok, .of_eq gens⟩
  have run := (ok _ inH (nsH nsM)).go callerA [] s1 G ⟨[.ref a], []⟩ [.ref a] [.ref a] _ _ room env (bind s1 (.ref a)) (.cons rfl .nil) (hsp G only sq)
  refine codeAny_mono run ?_
  rintro (e | fl) t h
  · exact (h : False).elim
  match fl, h with
  | .next, h => exact (h : False).elim
  | .brk, h => exact (h : False).elim
  | .cont, h => exact (h : False).elim
  | .ret u, h =>
    obtain ⟨v, G', os, bare, un, hok', ru, q⟩ := h
    obtain rfl : v = .bl true := q
    obtain rfl : u = Value.bool true := ru
    refine ⟨rfl, OldK.of_keep fun c o e => ?_, os, bare⟩
    cases hc : G c with
    | none => exact un.keep c o e hc (fun z => absurd (show c ∈ ([] : List Addr) from z) (by simp)) (by simp)
    | some u =>
      obtain ⟨ob, xs, z⟩ := (only c).resolve_left fun z => by
        rw [hc] at z
        cases z
      obtain ⟨e1, _⟩ := hok c _ z
      obtain ⟨e2, _⟩ := hok' c _ (un.frzs c ob _ z)
      rw [e] at e1
      cases e1
      exact e2
/-- what the head wants, from the law's promise -/
theorem head_of {l : PySem.W.OpenLaw} {n k : Nat} {q : Program} {loose : List Str} {XP : (Str → Option Value) → Heap → Prop} {YP : World → Heap → Prop} {d : DefRec} {K : Params → PySem.W.Frag} {sp : World → Sp} {x : Str}
    (most : l.most = some n) (n2 : n ≤ sizeLine) (dft : d.params.defaults = []) (room : Room k callerA)
    (inK : ∀ (w : World) (h : Heap), YP w h → (K w.params).In h)
    (ok : ∀ (w : World) (mg : Str → Option Value) (fa : Addr) (h : Heap), (K w.params).In h → h.Ns mainGlobals mg → mg d.name = some (.ref fa) → ∃ fd : FuncData, (∀ (s : Shared) (u : Value), BindsTo s fd ⟨[u], []⟩ [(x, u)]) ∧
      ∀ b : Heap, (K w.params).In b → b.Ns mainGlobals mg → FnOk l.prog w (K w.params) mg b CX0 k fa fd [x] (sp w))
    (hsp : ∀ (w : World) (G : Hp) (a : Addr) (ns : List Int), ns.length ≤ n → Only G → SqL (K w.params) G a (ns.map V.int) → sp w [.ref a] G (fun v _ => v = .bl true) fun _ _ _ => False) :
    PySem.W.WalkO q loose XP YP l.row.toRowW d [] (fun f vs => PySem.call f vs) := by
  refine Att.attach_call most dft fun w s0 s1 mg mb fa o pm cd doc a vs ns T Y ho hd hcd hmg hobj hints hlen hg => ?_
  have kin := inK w _ Y
  obtain ⟨fd, hb, hF⟩ := ok w mg fa _ kin T.T.g hmg
  exact head_call kin T.T.g T.T.b T.T.builtins T.T.nolimit hg hobj hints (Nat.le_trans hlen n2) room hF hb fun G hO hS => hsp w G a ns hlen hO hS
end TW
set_option Elab.async false
set_option maxRecDepth 100000
set_option maxHeartbeats 8000000
/-! what the top has left, and the law's own head -/
namespace TW
open PySem PySem.Spec PyProof.Rows L2
theorem all_mk {l : PySem.W.OpenLaw} {w : World} {K : PySem.W.Frag} {h : Heap} {mg : Str → Option Value} {fa : Addr} (X : K.In h) (G : h.Ns mainGlobals mg) (hfa : mg "law" = some (.ref fa))
    {CW : Addr} {f_is_listed : Addr} {od_is_listed an_is_listed : Option Addr} {sl_is_listed : Array (Option Value)} {oc_is_listed kV_is_listed dc_is_listed pm_is_listed cd_is_listed ct_is_listed : Value} {f_is_sound : Addr} {od_is_sound an_is_sound : Option Addr} {sl_is_sound : Array (Option Value)} {oc_is_sound kV_is_sound dc_is_sound pm_is_sound cd_is_sound ct_is_sound : Value} {f_is_mark : Addr} {od_is_mark an_is_mark : Option Addr} {sl_is_mark : Array (Option Value)} {oc_is_mark kV_is_mark dc_is_mark pm_is_mark cd_is_mark ct_is_mark : Value} {f_is_heard : Addr} {od_is_heard an_is_heard : Option Addr} {sl_is_heard : Array (Option Value)} {oc_is_heard kV_is_heard dc_is_heard pm_is_heard cd_is_heard ct_is_heard : Value} {f_are_marks : Addr} {od_are_marks an_are_marks : Option Addr} {sl_are_marks : Array (Option Value)} {oc_are_marks kV_are_marks dc_are_marks pm_are_marks cd_are_marks ct_are_marks : Value} {f_Wall___init__ : Addr} {od_Wall___init__ an_Wall___init__ : Option Addr} {sl_Wall___init__ : Array (Option Value)} {oc_Wall___init__ kV_Wall___init__ dc_Wall___init__ pm_Wall___init__ cd_Wall___init__ ct_Wall___init__ : Value} {f_Wall_marks : Addr} {od_Wall_marks an_Wall_marks : Option Addr} {sl_Wall_marks : Array (Option Value)} {oc_Wall_marks kV_Wall_marks dc_Wall_marks pm_Wall_marks cd_Wall_marks ct_Wall_marks : Value} {p_Wall_marks : Addr} {r_Wall_marks : List Value} {f_Wall___eq__ : Addr} {od_Wall___eq__ an_Wall___eq__ : Option Addr} {sl_Wall___eq__ : Array (Option Value)} {oc_Wall___eq__ kV_Wall___eq__ dc_Wall___eq__ pm_Wall___eq__ cd_Wall___eq__ ct_Wall___eq__ : Value} {f_parted : Addr} {od_parted an_parted : Option Addr} {sl_parted : Array (Option Value)} {oc_parted kV_parted dc_parted pm_parted cd_parted ct_parted : Value} {f_need_alone : Addr} {od_need_alone an_need_alone : Option Addr} {sl_need_alone : Array (Option Value)} {oc_need_alone kV_need_alone dc_need_alone pm_need_alone cd_need_alone ct_need_alone : Value} {f_all_blends : Addr} {od_all_blends an_all_blends : Option Addr} {sl_all_blends : Array (Option Value)} {oc_all_blends kV_all_blends dc_all_blends pm_all_blends cd_all_blends ct_all_blends : Value} {f_blends : Addr} {od_blends an_blends : Option Addr} {sl_blends : Array (Option Value)} {oc_blends kV_blends dc_blends pm_blends cd_blends ct_blends : Value} {f_is_inside_one : Addr} {od_is_inside_one an_is_inside_one : Option Addr} {sl_is_inside_one : Array (Option Value)} {oc_is_inside_one kV_is_inside_one dc_is_inside_one pm_is_inside_one cd_is_inside_one ct_is_inside_one : Value} {f_is_as_thick : Addr} {od_is_as_thick an_is_as_thick : Option Addr} {sl_is_as_thick : Array (Option Value)} {oc_is_as_thick kV_is_as_thick dc_is_as_thick pm_is_as_thick cd_is_as_thick ct_is_as_thick : Value} {f_is_group : Addr} {od_is_group an_is_group : Option Addr} {sl_is_group : Array (Option Value)} {oc_is_group kV_is_group dc_is_group pm_is_group cd_is_group ct_is_group : Value} {f_need_groups : Addr} {od_need_groups an_need_groups : Option Addr} {sl_need_groups : Array (Option Value)} {oc_need_groups kV_need_groups dc_need_groups pm_need_groups cd_need_groups ct_need_groups : Value} {f_blend_of : Addr} {od_blend_of an_blend_of : Option Addr} {sl_blend_of : Array (Option Value)} {oc_blend_of kV_blend_of dc_blend_of pm_blend_of cd_blend_of ct_blend_of : Value} {f_blended : Addr} {od_blended an_blended : Option Addr} {sl_blended : Array (Option Value)} {oc_blended kV_blended dc_blended pm_blended cd_blended ct_blended : Value} {f_is_thicker : Addr} {od_is_thicker an_is_thicker : Option Addr} {sl_is_thicker : Array (Option Value)} {oc_is_thicker kV_is_thicker dc_is_thicker pm_is_thicker cd_is_thicker ct_is_thicker : Value} {f__law_pen : Addr} {od__law_pen an__law_pen : Option Addr} {sl__law_pen : Array (Option Value)} {oc__law_pen kV__law_pen dc__law_pen pm__law_pen cd__law_pen ct__law_pen : Value} {f__law_draw : Addr} {od__law_draw an__law_draw : Option Addr} {sl__law_draw : Array (Option Value)} {oc__law_draw kV__law_draw dc__law_draw pm__law_draw cd__law_draw ct__law_draw : Value} {f__law_pick : Addr} {od__law_pick an__law_pick : Option Addr} {sl__law_pick : Array (Option Value)} {oc__law_pick kV__law_pick dc__law_pick pm__law_pick cd__law_pick ct__law_pick : Value} {f__law_blends : Addr} {od__law_blends an__law_blends : Option Addr} {sl__law_blends : Array (Option Value)} {oc__law_blends kV__law_blends dc__law_blends pm__law_blends cd__law_blends ct__law_blends : Value} {f__law_names : Addr} {od__law_names an__law_names : Option Addr} {sl__law_names : Array (Option Value)} {oc__law_names kV__law_names dc__law_names pm__law_names cd__law_names ct__law_names : Value} {f__law_thicker : Addr} {od__law_thicker an__law_thicker : Option Addr} {sl__law_thicker : Array (Option Value)} {oc__law_thicker kV__law_thicker dc__law_thicker pm__law_thicker cd__law_thicker ct__law_thicker : Value} {f__law_blended : Addr} {od__law_blended an__law_blended : Option Addr} {sl__law_blended : Array (Option Value)} {oc__law_blended kV__law_blended dc__law_blended pm__law_blended cd__law_blended ct__law_blended : Value} {f__law_marks : Addr} {od__law_marks an__law_marks : Option Addr} {sl__law_marks : Array (Option Value)} {oc__law_marks kV__law_marks dc__law_marks pm__law_marks cd__law_marks ct__law_marks : Value} {f__law_counted_right : Addr} {od__law_counted_right an__law_counted_right : Option Addr} {sl__law_counted_right : Array (Option Value)} {oc__law_counted_right kV__law_counted_right dc__law_counted_right pm__law_counted_right cd__law_counted_right ct__law_counted_right : Value} {f__law_one_right : Addr} {od__law_one_right an__law_one_right : Option Addr} {sl__law_one_right : Array (Option Value)} {oc__law_one_right kV__law_one_right dc__law_one_right pm__law_one_right cd__law_one_right ct__law_one_right : Value} {f_law : Addr} {od_law an_law : Option Addr} {sl_law : Array (Option Value)} {oc_law kV_law dc_law pm_law cd_law ct_law : Value} {tk_SIGNS : Tok} {tk_MARK_SIGNS : Tok} {tk_MOST_SIGNS : Tok} {tk_MOST_MARKS : Tok} {tk_MOST_BLENDED : Tok}
    (a_Wall : PySem.W.nsIn K mainGlobals "Wall" = some (some (.ref CW)))
    (pg_Wall : PySem.W.plainGet K CW Str.empty = true)
    (hd_Wall : PySem.W.hasDictIn K CW = true)
    (po_Wall : PySem.W.plainOver K CW = true)
    (sa_Wall : PySem.W.findIn K (.ref CW) "__setattr__" = some (some (.builtin "object.__setattr__")))
    (mk_Wall : PySem.W.makesIn K CW = true)
    (kc_Wall : PySem.W.keepIn K (.ref CW) = true)
    (n_Wall_own_marks : PySem.W.findIn K (.ref CW) "own_marks" = some none)
    (n_Wall_sounds : PySem.W.findIn K (.ref CW) "sounds" = some none)
    (n_Wall_all_marks : PySem.W.findIn K (.ref CW) "all_marks" = some none)
    (ha_Wall : PySem.W.findIn K (.ref CW) "__class__" = some (some (.builtin "object.__class__")))
    (hm_Wall : PySem.W.mroIn K CW (.type "object") = some true)
    (hn_class : PySem.W.specialIn K (.builtin "object.__class__") "__get__" = some (some (.builtin "getset_descriptor.__get__")))
    (ht_class : PySem.W.takesIn K (.builtin "object.__class__") = some true)
    (a_is_listed : PySem.W.nsIn K mainGlobals "is_listed" = some (some (.ref f_is_listed)))
    (l_is_listed : K.lookup f_is_listed = some ⟨oc_is_listed, od_is_listed, .func (PySem.W.fnOf "is_listed" "is_listed" (defArgs s_is_listed) (defBody s_is_listed) (defScope s_is_listed) .none kV_is_listed dc_is_listed pm_is_listed an_is_listed cd_is_listed ct_is_listed), sl_is_listed⟩)
    (c_is_listed : PySem.W.codeIn K cd_is_listed "is_listed" = true)
    (k_is_listed : PySem.W.keepIn K (.ref f_is_listed) = true)
    (a_is_sound : PySem.W.nsIn K mainGlobals "is_sound" = some (some (.ref f_is_sound)))
    (l_is_sound : K.lookup f_is_sound = some ⟨oc_is_sound, od_is_sound, .func (PySem.W.fnOf "is_sound" "is_sound" (defArgs s_is_sound) (defBody s_is_sound) (defScope s_is_sound) .none kV_is_sound dc_is_sound pm_is_sound an_is_sound cd_is_sound ct_is_sound), sl_is_sound⟩)
    (c_is_sound : PySem.W.codeIn K cd_is_sound "is_sound" = true)
    (k_is_sound : PySem.W.keepIn K (.ref f_is_sound) = true)
    (a_is_mark : PySem.W.nsIn K mainGlobals "is_mark" = some (some (.ref f_is_mark)))
    (l_is_mark : K.lookup f_is_mark = some ⟨oc_is_mark, od_is_mark, .func (PySem.W.fnOf "is_mark" "is_mark" (defArgs s_is_mark) (defBody s_is_mark) (defScope s_is_mark) .none kV_is_mark dc_is_mark pm_is_mark an_is_mark cd_is_mark ct_is_mark), sl_is_mark⟩)
    (c_is_mark : PySem.W.codeIn K cd_is_mark "is_mark" = true)
    (k_is_mark : PySem.W.keepIn K (.ref f_is_mark) = true)
    (a_is_heard : PySem.W.nsIn K mainGlobals "is_heard" = some (some (.ref f_is_heard)))
    (l_is_heard : K.lookup f_is_heard = some ⟨oc_is_heard, od_is_heard, .func (PySem.W.fnOf "is_heard" "is_heard" (defArgs s_is_heard) (defBody s_is_heard) (defScope s_is_heard) .none kV_is_heard dc_is_heard pm_is_heard an_is_heard cd_is_heard ct_is_heard), sl_is_heard⟩)
    (c_is_heard : PySem.W.codeIn K cd_is_heard "is_heard" = true)
    (k_is_heard : PySem.W.keepIn K (.ref f_is_heard) = true)
    (a_are_marks : PySem.W.nsIn K mainGlobals "are_marks" = some (some (.ref f_are_marks)))
    (l_are_marks : K.lookup f_are_marks = some ⟨oc_are_marks, od_are_marks, .func (PySem.W.fnOf "are_marks" "are_marks" (defArgs s_are_marks) (defBody s_are_marks) (defScope s_are_marks) .none kV_are_marks dc_are_marks pm_are_marks an_are_marks cd_are_marks ct_are_marks), sl_are_marks⟩)
    (c_are_marks : PySem.W.codeIn K cd_are_marks "are_marks" = true)
    (k_are_marks : PySem.W.keepIn K (.ref f_are_marks) = true)
    (a_Wall___init__ : PySem.W.findIn K (.ref CW) "__init__" = some (some (.ref f_Wall___init__)))
    (i_Wall___init__ : PySem.W.isFn K (.ref f_Wall___init__) = true)
    (l_Wall___init__ : K.lookup f_Wall___init__ = some ⟨oc_Wall___init__, od_Wall___init__, .func (PySem.W.fnOf "__init__" "Wall.__init__" (defArgs s_Wall___init__) (defBody s_Wall___init__) (defScope s_Wall___init__) .none kV_Wall___init__ dc_Wall___init__ pm_Wall___init__ an_Wall___init__ cd_Wall___init__ ct_Wall___init__), sl_Wall___init__⟩)
    (c_Wall___init__ : PySem.W.codeIn K cd_Wall___init__ "Wall.__init__" = true)
    (k_Wall___init__ : PySem.W.keepIn K (.ref f_Wall___init__) = true)
    (a_Wall_marks : PySem.W.findIn K (.ref CW) "marks" = some (some (.ref p_Wall_marks)))
    (pg_Wall_marks : PySem.W.specialIn K (.ref p_Wall_marks) "__get__" = some (some (.builtin "property.__get__")))
    (pt_Wall_marks : PySem.W.takesIn K (.ref p_Wall_marks) = some true)
    (pr_Wall_marks : PySem.W.recIn K p_Wall_marks "property" = some (.ref f_Wall_marks :: r_Wall_marks))
    (l_Wall_marks : K.lookup f_Wall_marks = some ⟨oc_Wall_marks, od_Wall_marks, .func (PySem.W.fnOf "marks" "Wall.marks" (defArgs s_Wall_marks) (defBody s_Wall_marks) (defScope s_Wall_marks) .none kV_Wall_marks dc_Wall_marks pm_Wall_marks an_Wall_marks cd_Wall_marks ct_Wall_marks), sl_Wall_marks⟩)
    (c_Wall_marks : PySem.W.codeIn K cd_Wall_marks "Wall.marks" = true)
    (k_Wall_marks : PySem.W.keepIn K (.ref f_Wall_marks) = true)
    (a_Wall___eq__ : PySem.W.findIn K (.ref CW) "__eq__" = some (some (.ref f_Wall___eq__)))
    (i_Wall___eq__ : PySem.W.isFn K (.ref f_Wall___eq__) = true)
    (l_Wall___eq__ : K.lookup f_Wall___eq__ = some ⟨oc_Wall___eq__, od_Wall___eq__, .func (PySem.W.fnOf "__eq__" "Wall.__eq__" (defArgs s_Wall___eq__) (defBody s_Wall___eq__) (defScope s_Wall___eq__) .none kV_Wall___eq__ dc_Wall___eq__ pm_Wall___eq__ an_Wall___eq__ cd_Wall___eq__ ct_Wall___eq__), sl_Wall___eq__⟩)
    (c_Wall___eq__ : PySem.W.codeIn K cd_Wall___eq__ "Wall.__eq__" = true)
    (k_Wall___eq__ : PySem.W.keepIn K (.ref f_Wall___eq__) = true)
    (a_parted : PySem.W.nsIn K mainGlobals "parted" = some (some (.ref f_parted)))
    (l_parted : K.lookup f_parted = some ⟨oc_parted, od_parted, .func (PySem.W.fnOf "parted" "parted" (defArgs s_parted) (defBody s_parted) (defScope s_parted) .none kV_parted dc_parted pm_parted an_parted cd_parted ct_parted), sl_parted⟩)
    (c_parted : PySem.W.codeIn K cd_parted "parted" = true)
    (k_parted : PySem.W.keepIn K (.ref f_parted) = true)
    (a_need_alone : PySem.W.nsIn K mainGlobals "need_alone" = some (some (.ref f_need_alone)))
    (l_need_alone : K.lookup f_need_alone = some ⟨oc_need_alone, od_need_alone, .func (PySem.W.fnOf "need_alone" "need_alone" (defArgs s_need_alone) (defBody s_need_alone) (defScope s_need_alone) .none kV_need_alone dc_need_alone pm_need_alone an_need_alone cd_need_alone ct_need_alone), sl_need_alone⟩)
    (c_need_alone : PySem.W.codeIn K cd_need_alone "need_alone" = true)
    (k_need_alone : PySem.W.keepIn K (.ref f_need_alone) = true)
    (a_all_blends : PySem.W.nsIn K mainGlobals "all_blends" = some (some (.ref f_all_blends)))
    (l_all_blends : K.lookup f_all_blends = some ⟨oc_all_blends, od_all_blends, .func (PySem.W.fnOf "all_blends" "all_blends" (defArgs s_all_blends) (defBody s_all_blends) (defScope s_all_blends) .none kV_all_blends dc_all_blends pm_all_blends an_all_blends cd_all_blends ct_all_blends), sl_all_blends⟩)
    (c_all_blends : PySem.W.codeIn K cd_all_blends "all_blends" = true)
    (k_all_blends : PySem.W.keepIn K (.ref f_all_blends) = true)
    (a_blends : PySem.W.nsIn K mainGlobals "blends" = some (some (.ref f_blends)))
    (l_blends : K.lookup f_blends = some ⟨oc_blends, od_blends, .func (PySem.W.fnOf "blends" "blends" (defArgs s_blends) (defBody s_blends) (defScope s_blends) .none kV_blends dc_blends pm_blends an_blends cd_blends ct_blends), sl_blends⟩)
    (c_blends : PySem.W.codeIn K cd_blends "blends" = true)
    (k_blends : PySem.W.keepIn K (.ref f_blends) = true)
    (a_is_inside_one : PySem.W.nsIn K mainGlobals "is_inside_one" = some (some (.ref f_is_inside_one)))
    (l_is_inside_one : K.lookup f_is_inside_one = some ⟨oc_is_inside_one, od_is_inside_one, .func (PySem.W.fnOf "is_inside_one" "is_inside_one" (defArgs s_is_inside_one) (defBody s_is_inside_one) (defScope s_is_inside_one) .none kV_is_inside_one dc_is_inside_one pm_is_inside_one an_is_inside_one cd_is_inside_one ct_is_inside_one), sl_is_inside_one⟩)
    (c_is_inside_one : PySem.W.codeIn K cd_is_inside_one "is_inside_one" = true)
    (k_is_inside_one : PySem.W.keepIn K (.ref f_is_inside_one) = true)
    (a_is_as_thick : PySem.W.nsIn K mainGlobals "is_as_thick" = some (some (.ref f_is_as_thick)))
    (l_is_as_thick : K.lookup f_is_as_thick = some ⟨oc_is_as_thick, od_is_as_thick, .func (PySem.W.fnOf "is_as_thick" "is_as_thick" (defArgs s_is_as_thick) (defBody s_is_as_thick) (defScope s_is_as_thick) .none kV_is_as_thick dc_is_as_thick pm_is_as_thick an_is_as_thick cd_is_as_thick ct_is_as_thick), sl_is_as_thick⟩)
    (c_is_as_thick : PySem.W.codeIn K cd_is_as_thick "is_as_thick" = true)
    (k_is_as_thick : PySem.W.keepIn K (.ref f_is_as_thick) = true)
    (a_is_group : PySem.W.nsIn K mainGlobals "is_group" = some (some (.ref f_is_group)))
    (l_is_group : K.lookup f_is_group = some ⟨oc_is_group, od_is_group, .func (PySem.W.fnOf "is_group" "is_group" (defArgs s_is_group) (defBody s_is_group) (defScope s_is_group) .none kV_is_group dc_is_group pm_is_group an_is_group cd_is_group ct_is_group), sl_is_group⟩)
    (c_is_group : PySem.W.codeIn K cd_is_group "is_group" = true)
    (k_is_group : PySem.W.keepIn K (.ref f_is_group) = true)
    (a_need_groups : PySem.W.nsIn K mainGlobals "need_groups" = some (some (.ref f_need_groups)))
    (l_need_groups : K.lookup f_need_groups = some ⟨oc_need_groups, od_need_groups, .func (PySem.W.fnOf "need_groups" "need_groups" (defArgs s_need_groups) (defBody s_need_groups) (defScope s_need_groups) .none kV_need_groups dc_need_groups pm_need_groups an_need_groups cd_need_groups ct_need_groups), sl_need_groups⟩)
    (c_need_groups : PySem.W.codeIn K cd_need_groups "need_groups" = true)
    (k_need_groups : PySem.W.keepIn K (.ref f_need_groups) = true)
    (a_blend_of : PySem.W.nsIn K mainGlobals "blend_of" = some (some (.ref f_blend_of)))
    (l_blend_of : K.lookup f_blend_of = some ⟨oc_blend_of, od_blend_of, .func (PySem.W.fnOf "blend_of" "blend_of" (defArgs s_blend_of) (defBody s_blend_of) (defScope s_blend_of) .none kV_blend_of dc_blend_of pm_blend_of an_blend_of cd_blend_of ct_blend_of), sl_blend_of⟩)
    (c_blend_of : PySem.W.codeIn K cd_blend_of "blend_of" = true)
    (k_blend_of : PySem.W.keepIn K (.ref f_blend_of) = true)
    (a_blended : PySem.W.nsIn K mainGlobals "blended" = some (some (.ref f_blended)))
    (l_blended : K.lookup f_blended = some ⟨oc_blended, od_blended, .func (PySem.W.fnOf "blended" "blended" (defArgs s_blended) (defBody s_blended) (defScope s_blended) .none kV_blended dc_blended pm_blended an_blended cd_blended ct_blended), sl_blended⟩)
    (c_blended : PySem.W.codeIn K cd_blended "blended" = true)
    (k_blended : PySem.W.keepIn K (.ref f_blended) = true)
    (a_is_thicker : PySem.W.nsIn K mainGlobals "is_thicker" = some (some (.ref f_is_thicker)))
    (l_is_thicker : K.lookup f_is_thicker = some ⟨oc_is_thicker, od_is_thicker, .func (PySem.W.fnOf "is_thicker" "is_thicker" (defArgs s_is_thicker) (defBody s_is_thicker) (defScope s_is_thicker) .none kV_is_thicker dc_is_thicker pm_is_thicker an_is_thicker cd_is_thicker ct_is_thicker), sl_is_thicker⟩)
    (c_is_thicker : PySem.W.codeIn K cd_is_thicker "is_thicker" = true)
    (k_is_thicker : PySem.W.keepIn K (.ref f_is_thicker) = true)
    (a__law_pen : PySem.W.nsIn K mainGlobals "_law_pen" = some (some (.ref f__law_pen)))
    (l__law_pen : K.lookup f__law_pen = some ⟨oc__law_pen, od__law_pen, .func (PySem.W.fnOf "_law_pen" "_law_pen" (defArgs s__law_pen) (defBody s__law_pen) (defScope s__law_pen) .none kV__law_pen dc__law_pen pm__law_pen an__law_pen cd__law_pen ct__law_pen), sl__law_pen⟩)
    (c__law_pen : PySem.W.codeIn K cd__law_pen "_law_pen" = true)
    (k__law_pen : PySem.W.keepIn K (.ref f__law_pen) = true)
    (a__law_draw : PySem.W.nsIn K mainGlobals "_law_draw" = some (some (.ref f__law_draw)))
    (l__law_draw : K.lookup f__law_draw = some ⟨oc__law_draw, od__law_draw, .func (PySem.W.fnOf "_law_draw" "_law_draw" (defArgs s__law_draw) (defBody s__law_draw) (defScope s__law_draw) .none kV__law_draw dc__law_draw pm__law_draw an__law_draw cd__law_draw ct__law_draw), sl__law_draw⟩)
    (c__law_draw : PySem.W.codeIn K cd__law_draw "_law_draw" = true)
    (k__law_draw : PySem.W.keepIn K (.ref f__law_draw) = true)
    (a__law_pick : PySem.W.nsIn K mainGlobals "_law_pick" = some (some (.ref f__law_pick)))
    (l__law_pick : K.lookup f__law_pick = some ⟨oc__law_pick, od__law_pick, .func (PySem.W.fnOf "_law_pick" "_law_pick" (defArgs s__law_pick) (defBody s__law_pick) (defScope s__law_pick) .none kV__law_pick dc__law_pick pm__law_pick an__law_pick cd__law_pick ct__law_pick), sl__law_pick⟩)
    (c__law_pick : PySem.W.codeIn K cd__law_pick "_law_pick" = true)
    (k__law_pick : PySem.W.keepIn K (.ref f__law_pick) = true)
    (a__law_blends : PySem.W.nsIn K mainGlobals "_law_blends" = some (some (.ref f__law_blends)))
    (l__law_blends : K.lookup f__law_blends = some ⟨oc__law_blends, od__law_blends, .func (PySem.W.fnOf "_law_blends" "_law_blends" (defArgs s__law_blends) (defBody s__law_blends) (defScope s__law_blends) .none kV__law_blends dc__law_blends pm__law_blends an__law_blends cd__law_blends ct__law_blends), sl__law_blends⟩)
    (c__law_blends : PySem.W.codeIn K cd__law_blends "_law_blends" = true)
    (k__law_blends : PySem.W.keepIn K (.ref f__law_blends) = true)
    (a__law_names : PySem.W.nsIn K mainGlobals "_law_names" = some (some (.ref f__law_names)))
    (l__law_names : K.lookup f__law_names = some ⟨oc__law_names, od__law_names, .func (PySem.W.fnOf "_law_names" "_law_names" (defArgs s__law_names) (defBody s__law_names) (defScope s__law_names) .none kV__law_names dc__law_names pm__law_names an__law_names cd__law_names ct__law_names), sl__law_names⟩)
    (c__law_names : PySem.W.codeIn K cd__law_names "_law_names" = true)
    (k__law_names : PySem.W.keepIn K (.ref f__law_names) = true)
    (a__law_thicker : PySem.W.nsIn K mainGlobals "_law_thicker" = some (some (.ref f__law_thicker)))
    (l__law_thicker : K.lookup f__law_thicker = some ⟨oc__law_thicker, od__law_thicker, .func (PySem.W.fnOf "_law_thicker" "_law_thicker" (defArgs s__law_thicker) (defBody s__law_thicker) (defScope s__law_thicker) .none kV__law_thicker dc__law_thicker pm__law_thicker an__law_thicker cd__law_thicker ct__law_thicker), sl__law_thicker⟩)
    (c__law_thicker : PySem.W.codeIn K cd__law_thicker "_law_thicker" = true)
    (k__law_thicker : PySem.W.keepIn K (.ref f__law_thicker) = true)
    (a__law_blended : PySem.W.nsIn K mainGlobals "_law_blended" = some (some (.ref f__law_blended)))
    (l__law_blended : K.lookup f__law_blended = some ⟨oc__law_blended, od__law_blended, .func (PySem.W.fnOf "_law_blended" "_law_blended" (defArgs s__law_blended) (defBody s__law_blended) (defScope s__law_blended) .none kV__law_blended dc__law_blended pm__law_blended an__law_blended cd__law_blended ct__law_blended), sl__law_blended⟩)
    (c__law_blended : PySem.W.codeIn K cd__law_blended "_law_blended" = true)
    (k__law_blended : PySem.W.keepIn K (.ref f__law_blended) = true)
    (a__law_marks : PySem.W.nsIn K mainGlobals "_law_marks" = some (some (.ref f__law_marks)))
    (l__law_marks : K.lookup f__law_marks = some ⟨oc__law_marks, od__law_marks, .func (PySem.W.fnOf "_law_marks" "_law_marks" (defArgs s__law_marks) (defBody s__law_marks) (defScope s__law_marks) .none kV__law_marks dc__law_marks pm__law_marks an__law_marks cd__law_marks ct__law_marks), sl__law_marks⟩)
    (c__law_marks : PySem.W.codeIn K cd__law_marks "_law_marks" = true)
    (k__law_marks : PySem.W.keepIn K (.ref f__law_marks) = true)
    (a__law_counted_right : PySem.W.nsIn K mainGlobals "_law_counted_right" = some (some (.ref f__law_counted_right)))
    (l__law_counted_right : K.lookup f__law_counted_right = some ⟨oc__law_counted_right, od__law_counted_right, .func (PySem.W.fnOf "_law_counted_right" "_law_counted_right" (defArgs s__law_counted_right) (defBody s__law_counted_right) (defScope s__law_counted_right) .none kV__law_counted_right dc__law_counted_right pm__law_counted_right an__law_counted_right cd__law_counted_right ct__law_counted_right), sl__law_counted_right⟩)
    (c__law_counted_right : PySem.W.codeIn K cd__law_counted_right "_law_counted_right" = true)
    (k__law_counted_right : PySem.W.keepIn K (.ref f__law_counted_right) = true)
    (a__law_one_right : PySem.W.nsIn K mainGlobals "_law_one_right" = some (some (.ref f__law_one_right)))
    (l__law_one_right : K.lookup f__law_one_right = some ⟨oc__law_one_right, od__law_one_right, .func (PySem.W.fnOf "_law_one_right" "_law_one_right" (defArgs s__law_one_right) (defBody s__law_one_right) (defScope s__law_one_right) .none kV__law_one_right dc__law_one_right pm__law_one_right an__law_one_right cd__law_one_right ct__law_one_right), sl__law_one_right⟩)
    (c__law_one_right : PySem.W.codeIn K cd__law_one_right "_law_one_right" = true)
    (k__law_one_right : PySem.W.keepIn K (.ref f__law_one_right) = true)
    (a_law : PySem.W.nsIn K mainGlobals "law" = some (some (.ref f_law)))
    (l_law : K.lookup f_law = some ⟨oc_law, od_law, .func (PySem.W.fnOf "law" "law" (defArgs s_law) (defBody s_law) (defScope s_law) .none kV_law dc_law pm_law an_law cd_law ct_law), sl_law⟩)
    (c_law : PySem.W.codeIn K cd_law "law" = true)
    (k_law : PySem.W.keepIn K (.ref f_law) = true)
    (z_isinstance : PySem.W.nsIn K mainGlobals "isinstance" = some none)
    (z_len : PySem.W.nsIn K mainGlobals "len" = some none)
    (z_all : PySem.W.nsIn K mainGlobals "all" = some none)
    (z_any : PySem.W.nsIn K mainGlobals "any" = some none)
    (z_sorted : PySem.W.nsIn K mainGlobals "sorted" = some none)
    (z_zip : PySem.W.nsIn K mainGlobals "zip" = some none)
    (z_enumerate : PySem.W.nsIn K mainGlobals "enumerate" = some none)
    (z_range : PySem.W.nsIn K mainGlobals "range" = some none)
    (z_abs : PySem.W.nsIn K mainGlobals "abs" = some none)
    (z_set : PySem.W.nsIn K mainGlobals "set" = some none)
    (z_tuple : PySem.W.nsIn K mainGlobals "tuple" = some none)
    (z_list : PySem.W.nsIn K mainGlobals "list" = some none)
    (z_dict : PySem.W.nsIn K mainGlobals "dict" = some none)
    (z_int : PySem.W.nsIn K mainGlobals "int" = some none)
    (z_bool : PySem.W.nsIn K mainGlobals "bool" = some none)
    (z_str : PySem.W.nsIn K mainGlobals "str" = some none)
    (z_repr : PySem.W.nsIn K mainGlobals "repr" = some none)
    (z_max : PySem.W.nsIn K mainGlobals "max" = some none)
    (z_SIGNS : PySem.W.nsIn K mainGlobals "SIGNS" = some (some (.str "abcdefghijklmnopqrstuvwxyz" tk_SIGNS)))
    (z_MARK_SIGNS : PySem.W.nsIn K mainGlobals "MARK_SIGNS" = some (some (.str "abcdefghijklmnopqrstuvwxyz+-" tk_MARK_SIGNS)))
    (z_MOST_SIGNS : PySem.W.nsIn K mainGlobals "MOST_SIGNS" = some (some (.int 8 tk_MOST_SIGNS)))
    (z_MOST_MARKS : PySem.W.nsIn K mainGlobals "MOST_MARKS" = some (some (.int 6 tk_MOST_MARKS)))
    (z_MOST_BLENDED : PySem.W.nsIn K mainGlobals "MOST_BLENDED" = some (some (.int 5 tk_MOST_BLENDED)))
    : ∃ fd : FuncData, (∀ (s : Shared) (v : Value), BindsTo s fd ⟨[v], []⟩ [("script", v)]) ∧ ∀ base : Heap, K.In base → base.Ns mainGlobals mg → FnOk l.prog w K mg base CX0 9 fa fd ["script"] (spLaw K) := by
  have e := hfa.symm.trans (PySem.W.mg_of X G a_law)
  cases e
  have T : Txt mg := ⟨PySem.W.mg_none_of X G z_isinstance, PySem.W.mg_none_of X G z_len, PySem.W.mg_none_of X G z_all, PySem.W.mg_none_of X G z_any, PySem.W.mg_none_of X G z_sorted, PySem.W.mg_none_of X G z_zip, PySem.W.mg_none_of X G z_enumerate, PySem.W.mg_none_of X G z_range, PySem.W.mg_none_of X G z_abs, PySem.W.mg_none_of X G z_set, PySem.W.mg_none_of X G z_tuple, PySem.W.mg_none_of X G z_list, PySem.W.mg_none_of X G z_dict, PySem.W.mg_none_of X G z_int, PySem.W.mg_none_of X G z_bool, PySem.W.mg_none_of X G z_str, PySem.W.mg_none_of X G z_repr, PySem.W.mg_none_of X G z_max, cons_of X G z_SIGNS ⟨_, rfl⟩, cons_of X G z_MARK_SIGNS ⟨_, rfl⟩, cons_of X G z_MOST_SIGNS ⟨_, rfl⟩, cons_of X G z_MOST_MARKS ⟨_, rfl⟩, cons_of X G z_MOST_BLENDED ⟨_, rfl⟩⟩
  have cl_Wall : Cls K CW := ⟨pg_Wall, hd_Wall, po_Wall, sa_Wall⟩
  have TW_ : WaC K CW := ⟨cl_Wall, n_Wall_own_marks, n_Wall_sounds, n_Wall_all_marks⟩
  have g_Wall := PySem.W.mg_of X G a_Wall
  have IW : InsC K CW := ⟨cl_Wall, ha_Wall, hn_class, ht_class, hm_Wall⟩
  have F_is_listed := fun_mk (st := s_is_listed) l_is_listed c_is_listed k_is_listed
  have F_is_sound := fun_mk (st := s_is_sound) l_is_sound c_is_sound k_is_sound
  have F_is_mark := fun_mk (st := s_is_mark) l_is_mark c_is_mark k_is_mark
  have F_is_heard := fun_mk (st := s_is_heard) l_is_heard c_is_heard k_is_heard
  have F_are_marks := fun_mk (st := s_are_marks) l_are_marks c_are_marks k_are_marks
  have F_Wall___init__ := fun_mk (st := s_Wall___init__) l_Wall___init__ c_Wall___init__ k_Wall___init__
  have F_Wall_marks := fun_mk (st := s_Wall_marks) l_Wall_marks c_Wall_marks k_Wall_marks
  have F_Wall___eq__ := fun_mk (st := s_Wall___eq__) l_Wall___eq__ c_Wall___eq__ k_Wall___eq__
  have F_parted := fun_mk (st := s_parted) l_parted c_parted k_parted
  have F_need_alone := fun_mk (st := s_need_alone) l_need_alone c_need_alone k_need_alone
  have F_all_blends := fun_mk (st := s_all_blends) l_all_blends c_all_blends k_all_blends
  have F_blends := fun_mk (st := s_blends) l_blends c_blends k_blends
  have F_is_inside_one := fun_mk (st := s_is_inside_one) l_is_inside_one c_is_inside_one k_is_inside_one
  have F_is_as_thick := fun_mk (st := s_is_as_thick) l_is_as_thick c_is_as_thick k_is_as_thick
  have F_is_group := fun_mk (st := s_is_group) l_is_group c_is_group k_is_group
  have F_need_groups := fun_mk (st := s_need_groups) l_need_groups c_need_groups k_need_groups
  have F_blend_of := fun_mk (st := s_blend_of) l_blend_of c_blend_of k_blend_of
  have F_blended := fun_mk (st := s_blended) l_blended c_blended k_blended
  have F_is_thicker := fun_mk (st := s_is_thicker) l_is_thicker c_is_thicker k_is_thicker
  have F__law_pen := fun_mk (st := s__law_pen) l__law_pen c__law_pen k__law_pen
  have F__law_draw := fun_mk (st := s__law_draw) l__law_draw c__law_draw k__law_draw
  have F__law_pick := fun_mk (st := s__law_pick) l__law_pick c__law_pick k__law_pick
  have F__law_blends := fun_mk (st := s__law_blends) l__law_blends c__law_blends k__law_blends
  have F__law_names := fun_mk (st := s__law_names) l__law_names c__law_names k__law_names
  have F__law_thicker := fun_mk (st := s__law_thicker) l__law_thicker c__law_thicker k__law_thicker
  have F__law_blended := fun_mk (st := s__law_blended) l__law_blended c__law_blended k__law_blended
  have F__law_marks := fun_mk (st := s__law_marks) l__law_marks c__law_marks k__law_marks
  have F__law_counted_right := fun_mk (st := s__law_counted_right) l__law_counted_right c__law_counted_right k__law_counted_right
  have F__law_one_right := fun_mk (st := s__law_one_right) l__law_one_right c__law_one_right k__law_one_right
  have F_law := fun_mk (st := s_law) l_law c_law k_law
  refine ⟨PySem.W.fnOf "law" "law" (defArgs s_law) (defBody s_law) (defScope s_law) .none kV_law dc_law pm_law an_law cd_law ct_law, fun s v => .of_eq rfl, fun base _ _ => ?_⟩
  have O_is_listed : FnOk l.prog w K mg base CX0 1 f_is_listed _ ["value"] (spListed K) := ok_is_listed F_is_listed T
  have b_is_listed : Binds K _ ["value"] [] := F_is_listed.binds fun _ _ _ _ _ _ us hl => match us, hl with | [_], _ => rfl
  have C_is_listed : Cal l.prog w K mg base "is_listed" 1 ["value"] [] (spListed K) := cal_of F_is_listed (PySem.W.mg_of X G a_is_listed) b_is_listed O_is_listed
  have O_is_sound : FnOk l.prog w K mg base CX0 1 f_is_sound _ ["value"] (spSound K) := ok_is_sound F_is_sound T
  have b_is_sound : Binds K _ ["value"] [] := F_is_sound.binds fun _ _ _ _ _ _ us hl => match us, hl with | [_], _ => rfl
  have C_is_sound : Cal l.prog w K mg base "is_sound" 1 ["value"] [] (spSound K) := cal_of F_is_sound (PySem.W.mg_of X G a_is_sound) b_is_sound O_is_sound
  have O_is_mark : FnOk l.prog w K mg base CX0 1 f_is_mark _ ["value"] (spMark K) := ok_is_mark F_is_mark T
  have b_is_mark : Binds K _ ["value"] [] := F_is_mark.binds fun _ _ _ _ _ _ us hl => match us, hl with | [_], _ => rfl
  have C_is_mark : Cal l.prog w K mg base "is_mark" 1 ["value"] [] (spMark K) := cal_of F_is_mark (PySem.W.mg_of X G a_is_mark) b_is_mark O_is_mark
  have O_is_heard : FnOk l.prog w K mg base CX0 2 f_is_heard _ ["value"] (spHeard K) := ok_is_heard F_is_heard T C_is_mark
  have b_is_heard : Binds K _ ["value"] [] := F_is_heard.binds fun _ _ _ _ _ _ us hl => match us, hl with | [_], _ => rfl
  have C_is_heard : Cal l.prog w K mg base "is_heard" 2 ["value"] [] (spHeard K) := cal_of F_is_heard (PySem.W.mg_of X G a_is_heard) b_is_heard O_is_heard
  have O_are_marks : FnOk l.prog w K mg base CX0 3 f_are_marks _ ["value"] (spMarks K) := ok_are_marks F_are_marks T C_is_listed C_is_heard
  have b_are_marks : Binds K _ ["value"] [] := F_are_marks.binds fun _ _ _ _ _ _ us hl => match us, hl with | [_], _ => rfl
  have C_are_marks : Cal l.prog w K mg base "are_marks" 3 ["value"] [] (spMarks K) := cal_of F_are_marks (PySem.W.mg_of X G a_are_marks) b_are_marks O_are_marks
  have O_Wall___init__ : FnOk l.prog w K mg base CX0 4 f_Wall___init__ _ ["self", "marks"] (spWaI K CW) := ok_Wall_init F_Wall___init__ T TW_ C_is_sound C_are_marks
  have b_Wall___init__ : Binds K _ ["self", "marks"] [] := F_Wall___init__.binds fun _ _ _ _ _ _ us hl => match us, hl with | [_, _], _ => rfl
  have M_Wall : Mkr l.prog w K mg base "Wall" CW 4 ["self", "marks"] (spWaI K CW) := ⟨f_Wall___init__, _, g_Wall, ⟨mk_Wall, a_Wall___init__, i_Wall___init__, kc_Wall⟩, b_Wall___init__, O_Wall___init__⟩
  have O_Wall_marks : L2.FnOk l.prog w K mg base CX0 1 f_Wall_marks _ ["self"] (spWaM K CW) := ok_Wall_marks F_Wall_marks TW_
  have b_Wall_marks : Binds K _ ["self"] [] := F_Wall_marks.binds fun _ _ _ _ _ _ us hl => match us, hl with | [_], _ => rfl
  have Pr_marks : PrC l.prog w K mg base CW "marks" 1 (spWaM K CW) := ⟨cl_Wall, p_Wall_marks, f_Wall_marks, _, ⟨a_Wall_marks, pg_Wall_marks, pt_Wall_marks, _, pr_Wall_marks⟩, O_Wall_marks, b_Wall_marks⟩
  have O_Wall___eq__ : L2.FnOk l.prog w K mg base CX0 1 f_Wall___eq__ _ ["self", "other"] (spEq (SameW K CW)) := ok_Wall_eq F_Wall___eq__ T g_Wall IW TW_
  have b_Wall___eq__ : Binds K _ ["self", "other"] [] := F_Wall___eq__.binds fun _ _ _ _ _ _ us hl => match us, hl with | [_, _], _ => rfl
  have Eq_Wall : EqC l.prog w K mg base CW 1 (SameW K CW) := ⟨f_Wall___eq__, _, _, O_Wall___eq__, a_Wall___eq__, i_Wall___eq__, b_Wall___eq__⟩
  have O_parted : FnOk l.prog w K mg base CX0 1 f_parted _ ["marks"] (spParted K) := ok_parted F_parted T
  have b_parted : Binds K _ ["marks"] [] := F_parted.binds fun _ _ _ _ _ _ us hl => match us, hl with | [_], _ => rfl
  have C_parted : Cal l.prog w K mg base "parted" 1 ["marks"] [] (spParted K) := cal_of F_parted (PySem.W.mg_of X G a_parted) b_parted O_parted
  have O_need_alone : FnOk l.prog w K mg base CX0 1 f_need_alone _ ["value"] (spAlone K CW) := ok_need_alone F_need_alone T g_Wall IW
  have b_need_alone : Binds K _ ["value"] [] := F_need_alone.binds fun _ _ _ _ _ _ us hl => match us, hl with | [_], _ => rfl
  have C_need_alone : Cal l.prog w K mg base "need_alone" 1 ["value"] [] (spAlone K CW) := cal_of F_need_alone (PySem.W.mg_of X G a_need_alone) b_need_alone O_need_alone
  have O_all_blends : FnOk l.prog w K mg base CX0 2 f_all_blends _ ["wall"] (spAllB K CW) := ok_all_blends F_all_blends T TW_ C_parted
  have b_all_blends : Binds K _ ["wall"] [] := F_all_blends.binds fun _ _ _ _ _ _ us hl => match us, hl with | [_], _ => rfl
  have C_all_blends : Cal l.prog w K mg base "all_blends" 2 ["wall"] [] (spAllB K CW) := cal_of F_all_blends (PySem.W.mg_of X G a_all_blends) b_all_blends O_all_blends
  have O_blends : FnOk l.prog w K mg base CX0 3 f_blends _ ["wall"] (spBlends K CW) := ok_blends F_blends T C_need_alone C_all_blends
  have b_blends : Binds K _ ["wall"] [] := F_blends.binds fun _ _ _ _ _ _ us hl => match us, hl with | [_], _ => rfl
  have C_blends : Cal l.prog w K mg base "blends" 3 ["wall"] [] (spBlends K CW) := cal_of F_blends (PySem.W.mg_of X G a_blends) b_blends O_blends
  have CB_blends : CalB l.prog w K mg base "blends" 3 ["wall"] ["wall"] (spBlends K CW) := calB_of F_blends (PySem.W.mg_of X G a_blends) (Fun.back F_blends (fun _ _ _ _ _ _ ws hl => match ws, hl with | [_], _ => rfl) (by simp)) O_blends
  have O_is_inside_one : FnOk l.prog w K mg base CX0 1 f_is_inside_one _ ["group", "groups"] (spInOne K) := ok_inside F_is_inside_one T
  have b_is_inside_one : Binds K _ ["group", "groups"] [] := F_is_inside_one.binds fun _ _ _ _ _ _ us hl => match us, hl with | [_, _], _ => rfl
  have C_is_inside_one : Cal l.prog w K mg base "is_inside_one" 1 ["group", "groups"] [] (spInOne K) := cal_of F_is_inside_one (PySem.W.mg_of X G a_is_inside_one) b_is_inside_one O_is_inside_one
  have O_is_as_thick : FnOk l.prog w K mg base CX0 2 f_is_as_thick _ ["one", "other"] (spThick K) := ok_thick F_is_as_thick T C_is_inside_one
  have b_is_as_thick : Binds K _ ["one", "other"] [] := F_is_as_thick.binds fun _ _ _ _ _ _ us hl => match us, hl with | [_, _], _ => rfl
  have C_is_as_thick : Cal l.prog w K mg base "is_as_thick" 2 ["one", "other"] [] (spThick K) := cal_of F_is_as_thick (PySem.W.mg_of X G a_is_as_thick) b_is_as_thick O_is_as_thick
  have O_is_group : FnOk l.prog w K mg base CX0 2 f_is_group _ ["value", "marks"] (spGroup K) := ok_is_group F_is_group T C_is_listed
  have b_is_group : Binds K _ ["value", "marks"] [] := F_is_group.binds fun _ _ _ _ _ _ us hl => match us, hl with | [_, _], _ => rfl
  have C_is_group : Cal l.prog w K mg base "is_group" 2 ["value", "marks"] [] (spGroup K) := cal_of F_is_group (PySem.W.mg_of X G a_is_group) b_is_group O_is_group
  have O_need_groups : FnOk l.prog w K mg base CX0 3 f_need_groups _ ["wall", "value"] (spGroups K CW) := ok_need_groups F_need_groups T TW_ C_is_listed C_is_group
  have b_need_groups : Binds K _ ["wall", "value"] [] := F_need_groups.binds fun _ _ _ _ _ _ us hl => match us, hl with | [_, _], _ => rfl
  have C_need_groups : Cal l.prog w K mg base "need_groups" 3 ["wall", "value"] [] (spGroups K CW) := cal_of F_need_groups (PySem.W.mg_of X G a_need_groups) b_need_groups O_need_groups
  have O_blend_of : FnOk l.prog w K mg base CX0 6 f_blend_of _ ["wall", "groups"] (spBlendOf K CW) := ok_blend_of F_blend_of T TW_ M_Wall
  have b_blend_of : Binds K _ ["wall", "groups"] [] := F_blend_of.binds fun _ _ _ _ _ _ us hl => match us, hl with | [_, _], _ => rfl
  have C_blend_of : Cal l.prog w K mg base "blend_of" 6 ["wall", "groups"] [] (spBlendOf K CW) := cal_of F_blend_of (PySem.W.mg_of X G a_blend_of) b_blend_of O_blend_of
  have O_blended : FnOk l.prog w K mg base CX0 7 f_blended _ ["wall", "groups"] (spBlended K CW) := ok_blended F_blended T C_need_alone C_need_groups C_blend_of
  have b_blended : Binds K _ ["wall", "groups"] [] := F_blended.binds fun _ _ _ _ _ _ us hl => match us, hl with | [_, _], _ => rfl
  have C_blended : Cal l.prog w K mg base "blended" 7 ["wall", "groups"] [] (spBlended K CW) := cal_of F_blended (PySem.W.mg_of X G a_blended) b_blended O_blended
  have CB_blended : CalB l.prog w K mg base "blended" 7 ["wall", "groups"] ["groups", "wall"] (spBlended K CW) := calB_of F_blended (PySem.W.mg_of X G a_blended) (Fun.back F_blended (fun _ _ _ _ _ _ ws hl => match ws, hl with | [_, _], _ => rfl) (by simp)) O_blended
  have O_is_thicker : FnOk l.prog w K mg base CX0 4 f_is_thicker _ ["wall", "one", "other"] (spThicker K CW) := ok_is_thicker F_is_thicker T C_need_alone C_need_groups C_is_as_thick
  have b_is_thicker : Binds K _ ["wall", "one", "other"] [] := F_is_thicker.binds fun _ _ _ _ _ _ us hl => match us, hl with | [_, _, _], _ => rfl
  have C_is_thicker : Cal l.prog w K mg base "is_thicker" 4 ["wall", "one", "other"] [] (spThicker K CW) := cal_of F_is_thicker (PySem.W.mg_of X G a_is_thicker) b_is_thicker O_is_thicker
  have CB_is_thicker : CalB l.prog w K mg base "is_thicker" 4 ["wall", "one", "other"] ["other", "one", "wall"] (spThicker K CW) := calB_of F_is_thicker (PySem.W.mg_of X G a_is_thicker) (Fun.back F_is_thicker (fun _ _ _ _ _ _ ws hl => match ws, hl with | [_, _, _], _ => rfl) (by simp)) O_is_thicker
  have O__law_pen : FnOk l.prog w K mg base CX0 1 f__law_pen _ ["script"] (spPen K) := ok_pen F__law_pen T
  have b__law_pen : Binds K _ ["script"] [] := F__law_pen.binds fun _ _ _ _ _ _ us hl => match us, hl with | [_], _ => rfl
  have C__law_pen : Cal l.prog w K mg base "_law_pen" 1 ["script"] [] (spPen K) := cal_of F__law_pen (PySem.W.mg_of X G a__law_pen) b__law_pen O__law_pen
  have O__law_draw : FnOk l.prog w K mg base CX0 1 f__law_draw _ ["pen", "many"] (spDraw K) := ok_draw F__law_draw T
  have b__law_draw : Binds K _ ["pen", "many"] [] := F__law_draw.binds fun _ _ _ _ _ _ us hl => match us, hl with | [_, _], _ => rfl
  have C__law_draw : Cal l.prog w K mg base "_law_draw" 1 ["pen", "many"] [] (spDraw K) := cal_of F__law_draw (PySem.W.mg_of X G a__law_draw) b__law_draw O__law_draw
  have O__law_pick : FnOk l.prog w K mg base CX0 2 f__law_pick _ ["pen", "some"] (spPick K) := ok_pick F__law_pick T C__law_draw
  have b__law_pick : Binds K _ ["pen", "some"] [] := F__law_pick.binds fun _ _ _ _ _ _ us hl => match us, hl with | [_, _], _ => rfl
  have C__law_pick : Cal l.prog w K mg base "_law_pick" 2 ["pen", "some"] [] (spPick K) := cal_of F__law_pick (PySem.W.mg_of X G a__law_pick) b__law_pick O__law_pick
  have O__law_blends : FnOk l.prog w K mg base CX0 1 f__law_blends _ ["marks"] (spLawBlends K) := ok_law_blends F__law_blends T
  have b__law_blends : Binds K _ ["marks"] [] := F__law_blends.binds fun _ _ _ _ _ _ us hl => match us, hl with | [_], _ => rfl
  have C__law_blends : Cal l.prog w K mg base "_law_blends" 1 ["marks"] [] (spLawBlends K) := cal_of F__law_blends (PySem.W.mg_of X G a__law_blends) b__law_blends O__law_blends
  have O__law_names : FnOk l.prog w K mg base CX0 1 f__law_names _ ["groups"] (spNames K) := ok_law_names F__law_names T
  have b__law_names : Binds K _ ["groups"] [] := F__law_names.binds fun _ _ _ _ _ _ us hl => match us, hl with | [_], _ => rfl
  have C__law_names : Cal l.prog w K mg base "_law_names" 1 ["groups"] [] (spNames K) := cal_of F__law_names (PySem.W.mg_of X G a__law_names) b__law_names O__law_names
  have O__law_thicker : FnOk l.prog w K mg base CX0 2 f__law_thicker _ ["every", "one", "other"] (spLawThicker K) := ok_law_thicker F__law_thicker T C__law_names
  have b__law_thicker : Binds K _ ["every", "one", "other"] [] := F__law_thicker.binds fun _ _ _ _ _ _ us hl => match us, hl with | [_, _, _], _ => rfl
  have C__law_thicker : Cal l.prog w K mg base "_law_thicker" 2 ["every", "one", "other"] [] (spLawThicker K) := cal_of F__law_thicker (PySem.W.mg_of X G a__law_thicker) b__law_thicker O__law_thicker
  have O__law_blended : FnOk l.prog w K mg base CX0 2 f__law_blended _ ["marks", "groups"] (spLawBlended K) := ok_law_blended F__law_blended T C__law_names
  have b__law_blended : Binds K _ ["marks", "groups"] [] := F__law_blended.binds fun _ _ _ _ _ _ us hl => match us, hl with | [_, _], _ => rfl
  have C__law_blended : Cal l.prog w K mg base "_law_blended" 2 ["marks", "groups"] [] (spLawBlended K) := cal_of F__law_blended (PySem.W.mg_of X G a__law_blended) b__law_blended O__law_blended
  have O__law_marks : FnOk l.prog w K mg base CX0 3 f__law_marks _ ["pen", "many"] (spLMk K) := ok_law_marks F__law_marks T C__law_draw C__law_pick
  have b__law_marks : Binds K _ ["pen", "many"] [] := F__law_marks.binds fun _ _ _ _ _ _ us hl => match us, hl with | [_, _], _ => rfl
  have C__law_marks : Cal l.prog w K mg base "_law_marks" 3 ["pen", "many"] [] (spLMk K) := cal_of F__law_marks (PySem.W.mg_of X G a__law_marks) b__law_marks O__law_marks
  have O__law_counted_right : FnOk l.prog w K mg base CX0 6 f__law_counted_right _ [] (spCounted K) := ok_counted F__law_counted_right T M_Wall C_blends
  have b__law_counted_right : Binds K _ [] [] := F__law_counted_right.binds fun _ _ _ _ _ _ us hl => match us, hl with | [], _ => rfl
  have C__law_counted_right : Cal l.prog w K mg base "_law_counted_right" 6 [] [] (spCounted K) := cal_of F__law_counted_right (PySem.W.mg_of X G a__law_counted_right) b__law_counted_right O__law_counted_right
  have O__law_one_right : FnOk l.prog w K mg base CX0 8 f__law_one_right _ ["pen", "many"] (spOne84 K) := ok_one84 F__law_one_right T TW_ M_Wall C__law_marks C__law_pick CB_blends C__law_blends C_is_thicker CB_is_thicker C__law_thicker C_blended CB_blended C__law_blended Pr_marks Eq_Wall
  have b__law_one_right : Binds K _ ["pen", "many"] [] := F__law_one_right.binds fun _ _ _ _ _ _ us hl => match us, hl with | [_, _], _ => rfl
  have C__law_one_right : Cal l.prog w K mg base "_law_one_right" 8 ["pen", "many"] [] (spOne84 K) := cal_of F__law_one_right (PySem.W.mg_of X G a__law_one_right) b__law_one_right O__law_one_right
  exact ok_law84 F_law T C__law_pen C__law_one_right C__law_counted_right
theorem walk {l : PySem.W.OpenLaw} {q : Program} {loose : List Str} {XP : (Str → Option Value) → Heap → Prop} {YP : World → Heap → Prop} {d : DefRec} {K : Params → PySem.W.Frag} (hn : l.most = some 63) (hdf : d.params.defaults = [])
    (hY : ∀ (w : World) (h : Heap), YP w h → (K w.params).In h)
    (F : ∀ (w : World) (mg : Str → Option Value) (fa : Addr) (h : Heap), (K w.params).In h → h.Ns mainGlobals mg → mg d.name = some (.ref fa) →
      ∃ fd : FuncData, (∀ (s : Shared) (u : Value), BindsTo s fd ⟨[u], []⟩ [("script", u)]) ∧ ∀ base : Heap, (K w.params).In base → base.Ns mainGlobals mg → FnOk l.prog w (K w.params) mg base CX0 9 fa fd ["script"] (spLaw (K w.params))) :
    PySem.W.WalkO q loose XP YP l.row.toRowW d [] (fun f vs => PySem.call f vs) :=
  head_of (n := 63) (k := 9) (x := "script") (sp := fun w => spLaw (K w.params)) hn (by decide) hdf ⟨⟨rfl, by decide, by decide⟩, rfl⟩ hY F (fun _ _ a ns hl _ hS => ⟨a, ns, rfl, hS, hl, fun _ => rfl⟩)
end TW
set_option Elab.async false
set_option maxRecDepth 100000
open PySem PySem.W PyProof.Rows
set_option maxRecDepth 100000 in
set_option maxHeartbeats 0 in
theorem PySem.Challenge.cw_throughwalls_k84_whole_blends_of_marks_holds : PySem.Challenge.rw_throughwalls_k84_whole_blends_of_marks.Holds := by
  w_on; o_law; k_head; (case hw => w_witness2)
  k_fill
  refine TW.walk (l := PySem.Challenge.rw_throughwalls_k84_whole_blends_of_marks) rfl rfl (fun w h Y => PySem.W.kIn_of Y) ?F
  case F =>
    intro w mg fa h KX G hmg
    refine' TW.all_mk KX G hmg ?a_Wall ?pg_Wall ?hd_Wall ?po_Wall ?sa_Wall ?mk_Wall ?kc_Wall ?n_Wall_own_marks ?n_Wall_sounds ?n_Wall_all_marks ?ha_Wall ?hm_Wall ?hn_class ?ht_class ?a_is_listed ?l_is_listed ?c_is_listed ?k_is_listed ?a_is_sound ?l_is_sound ?c_is_sound ?k_is_sound ?a_is_mark ?l_is_mark ?c_is_mark ?k_is_mark ?a_is_heard ?l_is_heard ?c_is_heard ?k_is_heard ?a_are_marks ?l_are_marks ?c_are_marks ?k_are_marks ?a_Wall___init__ ?i_Wall___init__ ?l_Wall___init__ ?c_Wall___init__ ?k_Wall___init__ ?a_Wall_marks ?pg_Wall_marks ?pt_Wall_marks ?pr_Wall_marks ?l_Wall_marks ?c_Wall_marks ?k_Wall_marks ?a_Wall___eq__ ?i_Wall___eq__ ?l_Wall___eq__ ?c_Wall___eq__ ?k_Wall___eq__ ?a_parted ?l_parted ?c_parted ?k_parted ?a_need_alone ?l_need_alone ?c_need_alone ?k_need_alone ?a_all_blends ?l_all_blends ?c_all_blends ?k_all_blends ?a_blends ?l_blends ?c_blends ?k_blends ?a_is_inside_one ?l_is_inside_one ?c_is_inside_one ?k_is_inside_one ?a_is_as_thick ?l_is_as_thick ?c_is_as_thick ?k_is_as_thick ?a_is_group ?l_is_group ?c_is_group ?k_is_group ?a_need_groups ?l_need_groups ?c_need_groups ?k_need_groups ?a_blend_of ?l_blend_of ?c_blend_of ?k_blend_of ?a_blended ?l_blended ?c_blended ?k_blended ?a_is_thicker ?l_is_thicker ?c_is_thicker ?k_is_thicker ?a__law_pen ?l__law_pen ?c__law_pen ?k__law_pen ?a__law_draw ?l__law_draw ?c__law_draw ?k__law_draw ?a__law_pick ?l__law_pick ?c__law_pick ?k__law_pick ?a__law_blends ?l__law_blends ?c__law_blends ?k__law_blends ?a__law_names ?l__law_names ?c__law_names ?k__law_names ?a__law_thicker ?l__law_thicker ?c__law_thicker ?k__law_thicker ?a__law_blended ?l__law_blended ?c__law_blended ?k__law_blended ?a__law_marks ?l__law_marks ?c__law_marks ?k__law_marks ?a__law_counted_right ?l__law_counted_right ?c__law_counted_right ?k__law_counted_right ?a__law_one_right ?l__law_one_right ?c__law_one_right ?k__law_one_right ?a_law ?l_law ?c_law ?k_law ?z_isinstance ?z_len ?z_all ?z_any ?z_sorted ?z_zip ?z_enumerate ?z_range ?z_abs ?z_set ?z_tuple ?z_list ?z_dict ?z_int ?z_bool ?z_str ?z_repr ?z_max ?z_SIGNS ?z_MARK_SIGNS ?z_MOST_SIGNS ?z_MOST_MARKS ?z_MOST_BLENDED
    (case a_Wall => k_is); (case pg_Wall => k_is); (case hd_Wall => k_is); (case po_Wall => k_is); (case sa_Wall => k_is); (case mk_Wall => k_is)
    (case kc_Wall => k_is); (case n_Wall_own_marks => k_is); (case n_Wall_sounds => k_is); (case n_Wall_all_marks => k_is); (case ha_Wall => k_is); (case hm_Wall => k_is)
    (case hn_class => k_is); (case ht_class => k_is); (case a_is_listed => k_is); (case l_is_listed => k_is); (case c_is_listed => k_is); (case k_is_listed => k_is)
    (case a_is_sound => k_is); (case l_is_sound => k_is); (case c_is_sound => k_is); (case k_is_sound => k_is); (case a_is_mark => k_is); (case l_is_mark => k_is)
    (case c_is_mark => k_is); (case k_is_mark => k_is); (case a_is_heard => k_is); (case l_is_heard => k_is); (case c_is_heard => k_is); (case k_is_heard => k_is)
    (case a_are_marks => k_is); (case l_are_marks => k_is); (case c_are_marks => k_is); (case k_are_marks => k_is); (case a_Wall___init__ => k_is); (case i_Wall___init__ => k_is)
    (case l_Wall___init__ => k_is); (case c_Wall___init__ => k_is); (case k_Wall___init__ => k_is); (case a_Wall_marks => k_is); (case pg_Wall_marks => k_is); (case pt_Wall_marks => k_is)
    (case pr_Wall_marks => k_is); (case l_Wall_marks => k_is); (case c_Wall_marks => k_is); (case k_Wall_marks => k_is); (case a_Wall___eq__ => k_is); (case i_Wall___eq__ => k_is)
    (case l_Wall___eq__ => k_is); (case c_Wall___eq__ => k_is); (case k_Wall___eq__ => k_is); (case a_parted => k_is); (case l_parted => k_is); (case c_parted => k_is)
    (case k_parted => k_is); (case a_need_alone => k_is); (case l_need_alone => k_is); (case c_need_alone => k_is); (case k_need_alone => k_is); (case a_all_blends => k_is)
    (case l_all_blends => k_is); (case c_all_blends => k_is); (case k_all_blends => k_is); (case a_blends => k_is); (case l_blends => k_is); (case c_blends => k_is)
    (case k_blends => k_is); (case a_is_inside_one => k_is); (case l_is_inside_one => k_is); (case c_is_inside_one => k_is); (case k_is_inside_one => k_is); (case a_is_as_thick => k_is)
    (case l_is_as_thick => k_is); (case c_is_as_thick => k_is); (case k_is_as_thick => k_is); (case a_is_group => k_is); (case l_is_group => k_is); (case c_is_group => k_is)
    (case k_is_group => k_is); (case a_need_groups => k_is); (case l_need_groups => k_is); (case c_need_groups => k_is); (case k_need_groups => k_is); (case a_blend_of => k_is)
    (case l_blend_of => k_is); (case c_blend_of => k_is); (case k_blend_of => k_is); (case a_blended => k_is); (case l_blended => k_is); (case c_blended => k_is)
    (case k_blended => k_is); (case a_is_thicker => k_is); (case l_is_thicker => k_is); (case c_is_thicker => k_is); (case k_is_thicker => k_is); (case a__law_pen => k_is)
    (case l__law_pen => k_is); (case c__law_pen => k_is); (case k__law_pen => k_is); (case a__law_draw => k_is); (case l__law_draw => k_is); (case c__law_draw => k_is)
    (case k__law_draw => k_is); (case a__law_pick => k_is); (case l__law_pick => k_is); (case c__law_pick => k_is); (case k__law_pick => k_is); (case a__law_blends => k_is)
    (case l__law_blends => k_is); (case c__law_blends => k_is); (case k__law_blends => k_is); (case a__law_names => k_is); (case l__law_names => k_is); (case c__law_names => k_is)
    (case k__law_names => k_is); (case a__law_thicker => k_is); (case l__law_thicker => k_is); (case c__law_thicker => k_is); (case k__law_thicker => k_is); (case a__law_blended => k_is)
    (case l__law_blended => k_is); (case c__law_blended => k_is); (case k__law_blended => k_is); (case a__law_marks => k_is); (case l__law_marks => k_is); (case c__law_marks => k_is)
    (case k__law_marks => k_is); (case a__law_counted_right => k_is); (case l__law_counted_right => k_is); (case c__law_counted_right => k_is); (case k__law_counted_right => k_is); (case a__law_one_right => k_is)
    (case l__law_one_right => k_is); (case c__law_one_right => k_is); (case k__law_one_right => k_is); (case a_law => k_is); (case l_law => k_is); (case c_law => k_is)
    (case k_law => k_is); (case z_isinstance => k_is); (case z_len => k_is); (case z_all => k_is); (case z_any => k_is); (case z_sorted => k_is)
    (case z_zip => k_is); (case z_enumerate => k_is); (case z_range => k_is); (case z_abs => k_is); (case z_set => k_is); (case z_tuple => k_is)
    (case z_list => k_is); (case z_dict => k_is); (case z_int => k_is); (case z_bool => k_is); (case z_str => k_is); (case z_repr => k_is)
    (case z_max => k_is); (case z_SIGNS => k_is); (case z_MARK_SIGNS => k_is); (case z_MOST_SIGNS => k_is); (case z_MOST_MARKS => k_is); (case z_MOST_BLENDED => k_is)
#print axioms PySem.Challenge.cw_throughwalls_k84_whole_blends_of_marks_holds
