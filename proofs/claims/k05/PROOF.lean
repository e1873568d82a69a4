import PyProof.Rows.All
import Wide.All
import OpenK.AllK
import Wide.FinOn
import KE.SortData
import HandS.ForMost
import HandS.Set
import HandS.SetFor
import HandS.SetKeys
import HandS.SortInts
import HandS.DictComp
import HandS.Walk
import HandS.Evl
import HandS.Deep
import HandS.Defaults
import PyProof.ReprReads
import HandS.IsInst
import HandS.Zip
import HandS.Style
import HandS.Star
import HandS.TupAny
import HandS.Conv
import HandS.More
import PySem.Challenge.RW_throughwalls_k05_whole_known_by_listing
import KE.GoesEnum
import KE.KDictPairs
import HandS.DictTup
import HandS.Keys
import KE.KDictDisplayH
import KE.KDictCopyH
import KE.KEqDict
import HandS.TupSets
import HandS.Small
import KE.KDictZip
import KE.KItemsList
import HandS.ListItems
set_option Elab.async false
set_option linter.all false
set_option maxRecDepth 100000
set_option maxHeartbeats 4000000
/-! sets of keys (ints and texts) made of a list or a tuple; sorted of such a set -/
namespace TW
open PySem PySem.Spec PyProof.Rows L2

/-! ### a set of keys that can be walked -/
def kOf (e : Int × Value) : Key := match e.2 with
  | .int i _ => .inl i
  | .str x _ => .inr x
  | _ => .inl 0
theorem kOf_is {k : Key} {h : Int} {u : Value} (q : keyIs k u = true) : kOf (h, u) = k := by
  rcases keyIs_shape q with ⟨i, t, rfl, rfl⟩ | ⟨x, t, rfl, rfl⟩ <;> rfl
theorem is_kOf {k k' : Key} {u : Value} (q : keyIs k u = true) : keyIs k' u = true ↔ k = k' := by
  rcases keyIs_shape q with ⟨i, t, rfl, rfl⟩ | ⟨x, t, rfl, rfl⟩
  · constructor
    · intro z
      rcases keyIs_shape z with ⟨j, u, rfl, e⟩ | ⟨y, u, rfl, e⟩
      · injection e with e1 _; rw [e1]
      · exact nomatch e
    · rintro rfl; exact q
  · constructor
    · intro z
      rcases keyIs_shape z with ⟨j, u, rfl, e⟩ | ⟨y, u, rfl, e⟩
      · exact nomatch e
      · injection e with e1 _; rw [e1]
    · rintro rfl; exact q
def OkE (w : World) (e : Int × Value) : Prop := keyIs (kOf e) e.2 = true ∧ e.1 = keyH w (kOf e)
def KS (w : World) (h : Heap) (a : Addr) (ks : List Key) (n : Nat) : Prop :=
  ∃ o es ep t, (h.get? a = some o ∧ o.ExactSet ∧ o.data = .set es ep t) ∧ ((∀ e ∈ es.toList, OkE w e) ∧ (es.toList.map kOf).Nodup ∧ ∀ k, k ∈ ks ↔ k ∈ es.toList.map kOf) ∧
    (es.size < scanBound ∧ t.fits es.size = true ∧ es.size = n) ∧ Ris t.place.toList ∧ (w.params.followText "set-order" = true ∨ t.led = true)
section
variable {P : Program} {w : World} {h h' : Heap} {a : Addr} {ks : List Key} {n : Nat}
theorem KS.at (R : KS w h a ks n) (k : ∀ o, h.get? a = some o → h'.get? a = some o) : KS w h' a ks n := by
  obtain ⟨o, es, ep, t, ⟨ho, r1⟩, r⟩ := R
  exact ⟨o, es, ep, t, ⟨k o ho, r1⟩, r⟩
theorem KS.congr {ks' : List Key} (R : KS w h a ks n) (e : ∀ k, k ∈ ks' ↔ k ∈ ks) : KS w h a ks' n := by
  obtain ⟨o, es, ep, t, r1, ⟨g, nd, m⟩, r⟩ := R
  exact ⟨o, es, ep, t, r1, ⟨g, nd, fun k => (e k).trans (m k)⟩, r⟩
theorem okE_elems {l : List (Int × Value)} (g : ∀ e ∈ l, OkE w e) : ElemsOf (mixKind P w) l := fun e he => by
  obtain ⟨h1, h2⟩ := g e he
  refine ⟨⟨kOf e, h1, h2⟩, ?_⟩
  rcases keyIs_shape h1 with ⟨i, t, _, q⟩ | ⟨x, t, _, q⟩ <;> rw [q] <;> rfl
theorem okE_mem {l : List (Int × Value)} (g : ∀ e ∈ l, OkE w e) (k : Key) : k ∈ l.map kOf ↔ ∃ e ∈ l, (mixKind P w).is k e.2 = true := by
  rw [List.mem_map]
  constructor
  · rintro ⟨e, he, q⟩; exact ⟨e, he, (is_kOf (g e he).1).2 q⟩
  · rintro ⟨e, he, q⟩; exact ⟨e, he, (is_kOf (g e he).1).1 q⟩
end
section
variable {P : Program} {w : World} {A : Around} {E : Value → Shared → Prop} {s : Shared} {a : Addr} {ks : List Key} {n : Nat}
theorem ks_tail {g : Bool → Sem Unit} (hg : ∀ (b : Bool) (z : Shared) (R' : Unit → Shared → Prop), R' () z → wpAny (model P w) A (g b) R' E z)
    {o : Obj} {es : Array (Int × Value)} {ep : Nat} {t : SetTable} (ho : s.heap.get? a = some o) (hex : o.ExactSet) (hd : o.data = .set es ep t)
    {es1 : Array (Int × Value)} {t2 : SetTable} {ks' : List Key} (gm : (∀ e ∈ es1.toList, OkE w e) ∧ (es1.toList.map kOf).Nodup ∧ ∀ k, k ∈ ks' ↔ k ∈ es1.toList.map kOf)
    (hb1 : es1.size < scanBound) (hf2 : t2.fits es1.size = true) (hr : Ris t2.place.toList) (hl : w.params.followText "set-order" = true ∨ t2.led = true) {dum : Bool} {R : Option Bool → Shared → Prop}
    (hR : ∀ h', Heap.SameBut a s.heap h' → KS w h' a ks' es1.size → R (some true) { s with heap := h' }) :
    wpAny (model P w) A (do
        storeSet a es1 t2
        if (!dum && t2.tooFull) = true then do
            g (relayAll t2 es1 (SetTable.grown es1.size)).2.2
            storeSet a (relayAll t2 es1 (SetTable.grown es1.size)).1 (relayAll t2 es1 (SetTable.grown es1.size)).2.1
            pure (some true)
          else pure (some true)) R E s := by
  refine wpAny_bind (wpAny_storeSet_of ho hd ?_ (fits_of_scanBound hb1))
  have u1 := store_at (es' := es1) (t' := t2) ho hd
  have c1 := Heap.SameBut.update s.heap a (Obj.putSet es1 t2)
  split
  · have pm := relayAll_perm t2 es1 (SetTable.grown es1.size)
    have f3 := relayAll_fits t2 es1 (SetTable.grown es1.size)
    have r3 := relayAll_ris t2 es1 (SetTable.grown es1.size)
    have l3 := relayAll_led t2 es1 (SetTable.grown es1.size)
    generalize relayAll t2 es1 (SetTable.grown es1.size) = Z at pm f3 r3 l3 ⊢
    obtain ⟨es2, t3, gv⟩ := Z
    dsimp only at pm f3 r3 l3 ⊢
    have hsz : es2.size = es1.size := by rw [← Array.length_toList, pm.length_eq, Array.length_toList]
    have hb2 : es2.size < scanBound := hsz ▸ hb1
    refine wpAny_bind (hg _ _ _ (wpAny_bind (wpAny_storeSet_of u1 rfl (wpAny_pure (hR _ (c1.trans (Heap.SameBut.update _ a _)) ?_)) (fits_of_scanBound hb2))))
    have u2 := store_at (es' := es2) (t' := t3) u1 rfl
    exact ⟨_, es2, _, t3, ⟨u2, hex, rfl⟩, ⟨fun e he => gm.1 e (pm.mem_iff.mp he), (pm.map kOf).nodup_iff.mpr gm.2.1, fun k => (gm.2.2 k).trans (pm.map kOf).mem_iff.symm⟩, ⟨hb2, f3, hsz⟩, r3, hl.imp id fun z => by rw [l3]; exact z⟩
  · exact wpAny_pure (hR _ c1 ⟨_, es1, _, t2, ⟨u1, hex, rfl⟩, gm, ⟨hb1, hf2, rfl⟩, hr, hl⟩)

theorem ks_addH {k : Key} {u : Value} {Q : Bool → Shared → Prop} (hku : keyIs k u = true) (R : KS w s.heap a ks n) (room : n + 1 < scanBound)
    (hQ : ∀ b h' n', Heap.SameBut a s.heap h' → n' ≤ n + 1 → KS w h' a (k :: ks) n' → Q b { s with heap := h' }) :
    wpAny (model P w) A (setAddHashed a u ((mixKind P w).hash k)) Q E s := by
  obtain ⟨o, es, ep, t, ⟨ho, hex, hd⟩, ⟨g, nd, hm⟩, ⟨hb, hf, hn⟩, hr, hl⟩ := R
  have hkey : (mixKind P w).is k u = true := hku
  have hsc : u.scannable = true := by rcases keyIs_shape hku with ⟨i, t, _, q⟩ | ⟨x, t, _, q⟩ <;> rw [q] <;> rfl
  have hel : ElemsOf (mixKind P w) es.toList := okE_elems g
  unfold setAddHashed setAddHashedIn
  refine wpAny_holding (wpAny_bind (wpAny_setState_of ho hd hf ?_))
  dsimp only
  rw [byScan_of hsc hb hel]
  simp only [↓reduceIte]
  unfold setAddByScan
  refine wpAny_bind (wpAny_bind (wpAny_rule (wpAny_bind (wpAny_setScan_of hkey ho hd hf hel ?_))))
  cases hfi : List.findIdx? (fun e => (mixKind P w).is k e.2) es.toList with
  | some j =>
    dsimp only
    obtain ⟨hj, pj, _⟩ := List.findIdx?_eq_some_iff_getElem.mp hfi
    have hin : k ∈ es.toList.map kOf := (okE_mem (P := P) g k).2 ⟨es.toList[j], List.getElem_mem hj, pj⟩
    refine wpAny_pure (wpAny_pure (hQ _ s.heap n (Heap.SameBut.refl a s.heap) (Nat.le_succ n) ⟨o, es, ep, t, ⟨ho, hex, hd⟩, ⟨g, nd, fun i => ?_⟩, ⟨hb, hf, hn⟩, hr, hl⟩))
    rw [List.mem_cons, hm i]
    exact ⟨fun z => z.elim (fun e => e ▸ hin) id, .inr⟩
  | none =>
    dsimp only
    have hnk : k ∉ es.toList.map kOf := fun z => by
      obtain ⟨e, he, q⟩ := (okE_mem (P := P) g k).1 z
      have c := List.findIdx?_eq_none_iff.mp hfi e he
      rw [q] at c; cases c
    have hgw : ∀ (b : Bool) {z : Shared} {R' : Unit → Shared → Prop}, R' () z → wpAny (model P w) A (match b with | true => rule "set.scan.the-table-gave-way" | false => pure ()) R' E z :=
      fun b z R' q => by cases b <;> first | exact wpAny_pure q | exact wpAny_rule q
    have pm := layNew_perm t es ((mixKind P w).hash k) u
    have f1 := layNew_fits t es ((mixKind P w).hash k) u
    have r1 := layNew_ris t es ((mixKind P w).hash k) u hr
    have l1 := layNew_led t es ((mixKind P w).hash k) u
    generalize layNew t es ((mixKind P w).hash k) u = Z at pm f1 r1 l1 ⊢
    obtain ⟨es1, t1, dum, gv⟩ := Z
    dsimp only at pm f1 r1 l1 ⊢
    rw [Array.toList_push] at pm
    have pc : es1.toList.Perm (((mixKind P w).hash k, u) :: es.toList) := pm.trans (List.perm_append_singleton _ _)
    have pk : (es1.toList.map kOf).Perm (k :: es.toList.map kOf) := by
      have z := pc.map kOf
      rw [List.map_cons, kOf_is hku] at z
      exact z
    have gm : (∀ e ∈ es1.toList, OkE w e) ∧ (es1.toList.map kOf).Nodup ∧ ∀ i, i ∈ k :: ks ↔ i ∈ es1.toList.map kOf := by
      refine ⟨fun e he => ?_, pk.nodup_iff.mpr (List.nodup_cons.mpr ⟨hnk, nd⟩), fun i => by rw [pk.mem_iff, List.mem_cons, List.mem_cons, hm i]⟩
      rcases List.mem_cons.mp (pc.mem_iff.mp he) with z | z
      · rw [z]
        refine ⟨?_, ?_⟩
        · rw [kOf_is hku]; exact hku
        · rw [kOf_is hku]; rfl
      · exact g e z
    have hsz : es1.size = n + 1 := by rw [← Array.length_toList, pc.length_eq, List.length_cons, Array.length_toList, hn]
    have hb1 : es1.size < scanBound := hsz ▸ room
    have hled : w.params.followText "set-order" = true ∨ t1.led = true := hl.imp id fun z => by rw [l1]; exact z
    have fin : ∀ h', Heap.SameBut a s.heap h' → KS w h' a (k :: ks) es1.size → Q true { s with heap := h' } := fun h' sb r => hQ true h' _ sb (by rw [hsz]; exact Nat.le_refl _) r
    refine wpAny_bind (hgw _ ?_)
    split
    · refine wpAny_bind ?_
      rw [hashByValue_scannable 8 hsc]
      refine wpAny_pure (ks_tail (fun b z R' q => by cases b <;> first | exact wpAny_pure q | exact wpAny_rule q) ho hex hd gm hb1 ?_ ?_ ?_ ?_)
      · first | (split <;> first | exact f1 | exact SetTable.fits_plain_off f1) | exact f1
      · first | (split <;> exact r1) | exact r1
      · first | (split <;> exact hled) | exact hled
      · intro h' sb r; dsimp only; exact wpAny_pure (fin h' sb r)
    · refine wpAny_bind (wpAny_pure ?_)
      simp only [↓reduceIte]
      refine ks_tail (fun b z R' q => by cases b <;> first | exact wpAny_pure q | exact wpAny_rule q) ho hex hd gm hb1 f1 r1 hled ?_
      intro h' sb r; dsimp only; exact wpAny_pure (fin h' sb r)
end
end TW
set_option Elab.async false
set_option linter.all false
set_option maxRecDepth 100000
set_option maxHeartbeats 8000000
namespace TW
open PySem PySem.Spec PyProof.Rows L2

theorem nin2 {a b c : Addr} (h1 : a ≠ b) (h2 : a ≠ c) : a ∉ [b, c] := by
  intro h
  rcases List.mem_cons.mp h with z | z
  · exact h1 z
  · exact h2 (List.mem_singleton.mp z)
section
variable {P : Program} {w : World} {A : Around} {E : Value → Shared → Prop} {s : Shared}
abbrev emptyS (w : World) : Obj := { cls := .type "set", dict := none, data := .set #[] 0 (.fresh 0 0 (!w.params.followText "set-order")) }
theorem ks_new {h : Heap} {a : Addr} (ho : h.get? a = some (emptyS w)) : KS w h a [] 0 :=
  ⟨_, #[], 0, _, ⟨ho, ⟨rfl, rfl, rfl⟩, rfl⟩, ⟨fun e he => by simp at he, by simp, fun k => by simp⟩, ⟨by decide, by rfl, rfl⟩, List.Pairwise.nil, by
    show _ ∨ (!w.params.followText "set-order") = true
    cases w.params.followText "set-order" <;> simp⟩
/-- the turns of set.update -/
theorem ks_update {I : Addr} {fp wr : List Addr} {G : Array GenState → Array GenState → Prop} {n : Nat} {Pv : Nat → Value → Prop} {St : Nat → Shared → Prop} {R : Result → Shared → Prop}
    (W : WalksS P w A.in1 I fp wr G n Pv St) (S : Addr) (hSf : S ∉ fp) (ks : List Key) (hn : n = ks.length) (hb : ks.length + 1 < scanBound) (hval : ∀ i v, Pv i v → ∃ k, ks[i]? = some k ∧ keyIs k v = true) :
    ∀ (m i : Nat) (s : Shared), n - i = m → i ≤ n → St i s → (∃ c, c ≤ i ∧ KS w s.heap S (ks.take i) c) →
      (∀ s' c, Moved (S :: wr) G s s' → c ≤ n → KS w s'.heap S ks c → R (.ok (.ret .none)) s') → codeAny (model P w) A (.builtin "set.update.loop" ⟨[.ref S, .ref I], []⟩) R s := by
  have nw : S ∉ wr := fun h => hSf (W.sub _ h)
  have sb : ∀ b ∈ wr, b ∈ S :: wr := fun b hb => List.mem_cons_of_mem _ hb
  intro m
  induction m with
  | zero =>
    intro i s hm hi hst ⟨c, hc, hS⟩ hR
    obtain rfl : i = n := by omega
    refine codeAny_builtin F.entry_set_update_loop ?_
    rw [Around.under_plainId F.plain_set_update_loop _]
    show wpAny _ A.in1 (pyNext (.ref I) >>= _) _ _ s
    refine wpAny_bind (W.done s _ _ hst fun s' mv => ?_)
    rw [List.take_of_length_le (by omega)] at hS
    exact wpAny_pure (hR s' c (mv.mono sb) hc (hS.at fun o e => mv.heap S o nw e))
  | succ m ih =>
    intro i s hm hi hst ⟨c, hc, hS⟩ hR
    have lt : i < n := by omega
    refine codeAny_builtin F.entry_set_update_loop ?_
    rw [Around.under_plainId F.plain_set_update_loop _]
    show wpAny _ A.in1 (pyNext (.ref I) >>= _) _ _ s
    refine wpAny_bind (W.item i s _ _ lt hst fun v s' hP st' mv => ?_)
    obtain ⟨k, hk, hv⟩ := hval i v hP
    have S1 : KS w s'.heap S (ks.take i) c := hS.at fun o e => mv.heap S o nw e
    show wpAny _ A.in1 (holding [v] (setAdd S v) >>= _) _ _ s'
    refine wpAny_bind (wpAny_holding ?_)
    unfold setAdd
    refine wpAny_holding (wpAny_bind ((mixKind P w).pyHash (k := k) hv ?_))
    refine ks_addH hv S1 (by omega) fun b h' n' sbt hn' S2 => ?_
    have S3 : KS w h' S (ks.take (i + 1)) n' := S2.congr fun j => by
      rw [List.take_add_one, hk]
      simp [List.mem_append, or_comm]
    refine wpAny_pure ⟨plainId_quiet F.plain_set_update_loop _, ih (i + 1) _ (by omega) lt (W.frame _ s' _ _ st' (Nat.le_succ _) fun b hb o e => ?_) ⟨n', by omega, S3⟩ fun s2 c2 mv2 hc2 hS2 => ?_⟩
    · rw [sbt.2 b (fun h : b = S => hSf (h ▸ hb))]; exact e
    · refine hR s2 c2 (Moved.trans W.gtrans ((mv.mono sb).then_heap (Nat.le_succ _) fun b o hb e => ?_) mv2) hc2 hS2
      rw [sbt.2 b (fun h : b = S => hb (h ▸ List.mem_cons_self))]; exact e

theorem ks_code1 (a : Value) {Q₁ : Value → Shared → Prop} (h : Q₁ (.ref s.heap.objs.size) { s with heap := s.heap.push (emptyS w) }) :
    codeAny (model P w) A (.call (.builtin "set.__new__") ⟨[.type "set", a], []⟩) (wants Q₁ E) s := code_set_led1 a h

/-- the values are these keys -/
def KeysAre (items : Array Value) (ks : List Key) : Prop := items.size = ks.length ∧ ∀ (i : Nat) (v : Value), items[i]? = some v → ∃ k, ks[i]? = some k ∧ keyIs k v = true

set_option maxHeartbeats 8000000 in
theorem call_set1 {a : Value} {Q : Value → Shared → Prop}
    (h : wpAny (model P w) A.in1.in1 (Builtin.«set.__init__» ⟨[.ref s.heap.objs.size, a], []⟩) (fun fin z => fin = .done (.ret .none) ∧ Q (.ref s.heap.objs.size) z) (fun _ _ => False) { s with heap := s.heap.push (emptyS w) }) :
    wpAny (model P w) A (call (.type "set") [a]) Q E s := by
  obtain ⟨c, tl, hmro⟩ := F.called_set.mro
  have x1 := F.called_set.made
  have x2 := F.called_set.sub
  refine wpAny_call (codeAny_of_tree ?_)
  show wpAny _ _ (callAny (.type "set") _) _ _ _
  refine wpAny_pure ⟨Code.quiet_builtin _ (by decide +kernel), codeAny_builtin F.entry_type_call ?_⟩
  rw [Around.under_plain (weight_type_call_type "set" [a] []) rfl]
  have x3 := F.called_set.notType
  have x4 := F.called_set.canCreate
  have x5 := F.typeCall_set_1 a
  repeat (any_goals (first | assumption | wp_step))
  refine codeAny_mono (ks_code1 a (E := E) (Q₁ := fun obj z => obj = .ref s.heap.objs.size ∧ z = { s with heap := s.heap.push (emptyS w) }) ⟨rfl, rfl⟩) fun r z hr => ?_
  cases r with
  | error e => exact hr
  | ok fl =>
    cases fl with
    | ret obj =>
      obtain ⟨rfl, rfl⟩ := hr
      have hT : Shared.TypeIs { s with heap := s.heap.push (emptyS w) } (.ref s.heap.objs.size) "set" := ⟨_, Heap.get?_push_size _ rfl, rfl⟩
      have x6 := F.called_set.init.lookup
      have x7 := F.called_set.init.bind (.ref s.heap.objs.size)
      repeat (any_goals (first | assumption | wp_step))
      refine codeAny_mono (codeAny_call_builtin (R := wants (fun r z => r = .none ∧ Q (.ref s.heap.objs.size) z) E)
        F.called_set.init.plain F.entry_set_init (check_set_init_1 hT (wpAny_mono h (fun fin z hz => ?_) fun _ _ z => False.elim z))) fun r₂ s₂ hr₂ => ?_
      · obtain ⟨rfl, hz⟩ := hz
        exact ⟨rfl, hz⟩
      · cases r₂ with
        | error e => exact hr₂
        | ok fl₂ =>
          cases fl₂ with
          | ret r =>
            obtain ⟨rfl, hz⟩ := hr₂
            repeat (any_goals (first | assumption | wp_step))
          | _ => exact hr₂.elim
    | _ => exact hr.elim
theorem upd_seq {T : String} {S l : Addr} {Q : Unit → Shared → Prop} (hT : s.TypeIs (.ref l) T) (h1 : isSubtype (.type T) (.type "set") = pure false) (h2 : isSubtype (.type T) (.type "frozenset") = pure false) (h3 : (Value.type T == Value.type "dict") = false)
    (h : wpAny (model P w) A (pyIter (.ref l)) (fun it z => wpAny (model P w) A (runValue (.builtin "set.update.loop" ⟨[.ref S, it], []⟩)) (fun _ z => Q () z) E z) E s) :
    wpAny (model P w) A (Builtin.Frozenset.updateFrom "set.__init__" S (.ref l)) Q E s := by
  unfold Builtin.Frozenset.updateFrom
  generalize hPI : pyIter = PI
  generalize hRV : runValue = RV
  wp_walk
  subst hPI
  subst hRV
  exact wpAny_mono h (fun it z hz => wpAny_bind (wpAny_mono hz (fun _ z hq => wpAny_pure hq) fun _ _ e => e)) fun _ _ e => e
theorem set_init {S : Addr} {a : Value} {Q : Fin → Shared → Prop} (hS : s.heap.get? S = some (emptyS w))
    (h : wpAny (model P w) A (Builtin.Frozenset.updateFrom "set.__init__" S a) (fun _ z => Q (.done (.ret .none)) z) E s) : wpAny (model P w) A (Builtin.«set.__init__» ⟨[.ref S, a], []⟩) Q E s := by
  unfold Builtin.«set.__init__» noKeywords
  generalize hPI : Builtin.Frozenset.updateFrom = PI at *
  wp_walk
  subst hPI
  exact wpAny_mono h (fun it z hz => wpAny_pure hz) fun _ _ e => e
theorem call_set_keys {l : Addr} {items : Array Value} (ks : List Key) {Q : Value → Shared → Prop} (hh : A.handled = none) (hl : s.heap.IsTuple l items ∨ s.heap.IsList l items) (hit : KeysAre items ks) (hb : ks.length + 1 < scanBound)
    (h : ∀ (h' : Heap) (tk c : Nat), KS w h' s.heap.objs.size ks c → c ≤ ks.length → (∀ b o, s.heap.get? b = some o → h'.get? b = some o) → Q (.ref s.heap.objs.size) { s with heap := h', toks := tk }) :
    wpAny (model P w) A (call (.type "set") [.ref l]) Q E s := by
  have hS : (s.heap.push (emptyS w)).get? s.heap.objs.size = some (emptyS w) := Heap.get?_push_size _ rfl
  refine call_set1 (set_init hS ?_)
  have hh3 : A.in1.in1.in1.handled = none := by simp [hh]
  have hz1 : (s.heap.push (emptyS w)).objs.size = s.heap.objs.size + 1 := Heap.size_push ..
  have fin : ∀ {wr : List Addr} {s' : Shared} {c : Nat} {G : Array GenState → Array GenState → Prop} {o0 : Obj} {g0 : ∀ {x y}, G x y → y = x}, wr = [s.heap.objs.size + 1] →
      Moved (s.heap.objs.size :: wr) G { s with heap := (s.heap.push (emptyS w)).push o0 } s' → c ≤ items.size → KS w s'.heap s.heap.objs.size ks c → Q (.ref s.heap.objs.size) s' := fun {wr s' c G o0 g0} ew mv hc hk => by
    subst ew
    obtain ⟨h', g2, d', tk', os'⟩ := s'
    obtain rfl : g2 = s.gens := g0 mv.gens
    obtain rfl : d' = s.drawn := mv.drawn
    obtain rfl : os' = s.os := mv.os
    rw [hit.1] at hc
    refine h h' tk' c hk hc fun b o e => ?_
    have hb0 : b < s.heap.objs.size := Heap.lt_size e
    exact mv.heap b o (nin2 (Nat.ne_of_lt hb0) (Nat.ne_of_lt (Nat.lt_succ_of_lt hb0))) (Heap.get?_push_of_some _ (Heap.get?_push_of_some _ e))
  rcases hl with hl | hl
  · have hl1 : (s.heap.push (emptyS w)).IsTuple l items := hl.push _
    have hlS : l < s.heap.objs.size := by
      obtain ⟨ol, hol, _⟩ := hl
      exact Heap.lt_size hol
    have hneI : l ≠ (s.heap.push (emptyS w)).objs.size := by rw [hz1]; exact Nat.ne_of_lt (Nat.lt_succ_of_lt hlS)
    obtain ⟨ol, hol, hcl, _⟩ := id hl1
    refine upd_seq (T := "tuple") ⟨ol, hol, hcl⟩ F.sub_tuple_set F.sub_tuple_frozenset (by decide) (wpAny_pyIter_tuple hl1 (wpAny_runValue ?_))
    refine ks_update ((Walks.tuple hh3 _ l hneI items).toS) s.heap.objs.size (by rw [hz1]; exact nin2 (Nat.ne_of_lt (Nat.lt_succ_self _)) (Nat.ne_of_gt hlS)) ks hit.1 hb hit.2 (items.size - 0) 0 _ (by omega) (Nat.zero_le _)
      ⟨⟨_, Heap.get?_push_size _ rfl, rfl, rfl⟩, (hl1.push _)⟩ ⟨0, Nat.le_refl 0, ks_new (Heap.get?_push_of_some _ hS)⟩ ?_
    intro s' c' hm hc' hS'
    exact ⟨rfl, fin (g0 := fun z => z) (by rw [hz1]) hm hc' hS'⟩
  · have hl1 : (s.heap.push (emptyS w)).IsList l items := hl.push _
    obtain ⟨ol, hol, hcl, _⟩ := id hl
    have hlS : l < s.heap.objs.size := Heap.lt_size hol
    have hneI : l ≠ (s.heap.push (emptyS w)).objs.size := by rw [hz1]; exact Nat.ne_of_lt (Nat.lt_succ_of_lt hlS)
    refine upd_seq (T := "list") ⟨ol, Heap.get?_push_of_some _ hol, hcl⟩ F.sub_list_set F.sub_list_frozenset (by decide) (wpAny_pyIter_list hl1 (wpAny_runValue ?_))
    refine ks_update ((Walks.list hh3 _ l hneI items).toS) s.heap.objs.size (by rw [hz1]; exact nin2 (Nat.ne_of_lt (Nat.lt_succ_self _)) (Nat.ne_of_gt hlS)) ks hit.1 hb hit.2 (items.size - 0) 0 _ (by omega) (Nat.zero_le _)
      ⟨⟨_, Heap.get?_push_size _ rfl, rfl, rfl⟩, (hl1.push _)⟩ ⟨0, Nat.le_refl 0, ks_new (Heap.get?_push_of_some _ hS)⟩ ?_
    intro s' c' hm hc' hS'
    exact ⟨rfl, fin (g0 := fun z => z) (by rw [hz1]) hm hc' hS'⟩

/-! ### sorted of such a set -/
open PySem.W in
theorem sorted_ks {β : Type} {a : Addr} {ks : List Key} {n : Nat} {Q : Value → Shared → Prop} {enc : β → PyData} (toK : β → Key) (ofK : Key → β) (hinv : ∀ k, k ∈ ks → toK (ofK k) = k) (henc : ∀ (k : Key) (u : Value) (h : Heap), k ∈ ks → keyIs k u = true → ∃ as, Reads h u (enc (ofK k)) as)
    (hal : ∀ b b', alike (enc b) (enc b') = true) (hso : ∀ b, enc b ≠ .none ∧ ∀ xs, enc b ≠ .tuple xs) (hde : ∀ b, (enc b).depth = 0) (R : KS w s.heap a ks n) (hh : A.handled = none) (hu : A.units + 8 < cLine)
    (hQ : ∀ s' p (out : List Value) (c : Nat) (bs : List β), (∀ b o, s.heap.get? b = some o → s'.heap.get? b = some o) → s'.gens = s.gens → s'.os = s.os → s.heap.objs.size ≤ p →
      s'.heap.get? p = some (seqObj "list" out.toArray c) → out.length ≤ sizeLine → EachIs (fun u b => keyIs (toK b) u = true) out (bs.mergeSort (dataLe false enc)) → (bs.map toK).Nodup → (∀ k, k ∈ bs.map toK ↔ k ∈ ks) → bs.length = n → Q (.ref p) s') :
    wpAny (model P w) A (call (.builtin "sorted") [.ref a]) Q E s := by
  obtain ⟨o, es, ep, t, ⟨ho, hex, hd⟩, ⟨g, nd, hm⟩, ⟨hb, hf, hn⟩, hr, hl⟩ := R
  refine Calls.call_function_entry kind_sorted plain_sorted entry_sorted (args_sorted1 _) ?_
  unfold Builtin.«sorted»
  refine wpAny_bind (m := checkCount "sorted" 1 1 _) (wpAny_pure ?_)
  refine wpAny_bind (collect_set (A := A.in1) hh ⟨o, ho, hex.1, hd⟩ hf hb hr hl fun s1 vs k1 hz g1 o1 pm => ?_)
  have hvl : vs.length = n := by rw [pm.length_eq, List.length_map, Array.length_toList]; exact hn
  have hvz : vs.length ≤ sizeLine := by rw [hvl, ← hn]; exact fits_of_scanBound hb
  have hv : ∀ v ∈ vs, keyIs (kOf (0, v)) v = true ∧ kOf (0, v) ∈ ks := fun v hv => by
    obtain ⟨e, he, q⟩ := List.mem_map.mp (pm.mem_iff.mp hv)
    subst q
    have z := (g e he).1
    have e1 : kOf (0, e.2) = kOf e := kOf_is z
    rw [e1]
    exact ⟨z, (hm _).2 (List.mem_map.mpr ⟨e, he, rfl⟩)⟩
  have pk : (vs.map fun v => kOf (0, v)).Perm (es.toList.map kOf) := by
    have q := pm.map fun v => kOf (0, v)
    rw [List.map_map] at q
    refine q.trans (List.Perm.of_eq (List.map_congr_left fun e he => kOf_is (g e he).1))
  have ek : ∀ {l : List Value}, (∀ v ∈ l, keyIs (kOf (0, v)) v = true ∧ kOf (0, v) ∈ ks) → EachIs (fun u b => keyIs (toK b) u = true) l (l.map fun v => ofK (kOf (0, v))) := by
    intro l
    induction l with
    | nil => exact fun _ => .nil
    | cons v l ih =>
      intro q
      refine .cons ?_ (ih fun u hu => q u (List.mem_cons_of_mem _ hu))
      rw [hinv _ (q v List.mem_cons_self).2]
      exact (q v List.mem_cons_self).1
  have er : ∀ (h : Heap) {l : List Value}, (∀ v ∈ l, keyIs (kOf (0, v)) v = true ∧ kOf (0, v) ∈ ks) → EachIs (fun u b => ∃ as, Reads h u (enc b) as) l (l.map fun v => ofK (kOf (0, v))) := by
    intro h l
    induction l with
    | nil => exact fun _ => .nil
    | cons v l ih => exact fun q => .cons (henc _ v h (q v List.mem_cons_self).2 (q v List.mem_cons_self).1) (ih fun u hu => q u (List.mem_cons_of_mem _ hu))
  refine wpAny_bind (wpAny_newList ?_ hvz)
  have hoL : (s1.heap.push (seqObj "list" vs.toArray 0)).get? s1.heap.objs.size = some (seqObj "list" vs.toArray 0) := Heap.get?_push_size _ rfl
  have er1 := er (sortingHeap (s1.heap.push (seqObj "list" vs.toArray 0)) s1.heap.objs.size vs) hv
  refine wpAny_bind (wpAny_holding (wpAny_call_entry slot_list_sort ⟨_, hoL, rfl⟩ entry_list_sort (list_sort_vals (s := { s1 with heap := s1.heap.push (seqObj "list" vs.toArray 0) }) hoL
    (SortsAt.data (s := { s1 with heap := sortingHeap (s1.heap.push (seqObj "list" vs.toArray 0)) s1.heap.objs.size vs }) (each_map (R := fun v d => ∃ as, Reads (sortingHeap (s1.heap.push (seqObj "list" vs.toArray 0)) s1.heap.objs.size vs) v d as) enc er1)
      (AllAlike.of hal) (Sortable.others hso) fun d hd => ?_) hvz ⟨_, rfl, ?_⟩) (args_list_sort _)))
  · obtain ⟨b, _, rfl⟩ := List.mem_map.mp hd
    rw [hde b]
    have z : A.in1.in1.units = A.units + 2 := by simp [Around.in1]
    omega
  · obtain ⟨c, hc⟩ := sortedHeap_at (vs := vs) (out := (sortVals (dataKind (sortingHeap (s1.heap.push (seqObj "list" vs.toArray 0)) s1.heap.objs.size vs) ((vs.map fun v => ofK (kOf (0, v))).map enc)) false vs vs).toArray) hoL
    refine wpAny_pure ⟨_, rfl, hQ _ s1.heap.objs.size _ c (vs.map fun v => ofK (kOf (0, v))) (fun b u e => ?_) g1 o1 hz hc ?_ (sortVals_data false (ek hv) er1 (AllAlike.of hal)) ?_ ?_ ?_⟩
    · have q := k1 b u e
      have hlt := Heap.lt_size q
      show (sortedHeap (s1.heap.push (seqObj "list" vs.toArray 0)) s1.heap.objs.size vs _).get? b = some u
      rw [sortedHeap_old (Nat.ne_of_lt hlt) (by rw [size_push']; exact Nat.lt_succ_of_lt hlt)]
      exact Heap.get?_push_of_some _ q
    · rw [sortVals_length false rfl]; exact hvz
    · rw [List.map_map]
      have q : vs.map (toK ∘ fun v => ofK (kOf (0, v))) = vs.map fun v => kOf (0, v) := List.map_congr_left fun v h => hinv _ (hv v h).2
      rw [q]
      exact pk.nodup_iff.mpr nd
    · intro k
      rw [List.map_map]
      have q : vs.map (toK ∘ fun v => ofK (kOf (0, v))) = vs.map fun v => kOf (0, v) := List.map_congr_left fun v h => hinv _ (hv v h).2
      rw [q, pk.mem_iff, ← hm k]
    · rw [List.length_map]; exact hvl
end
end TW
set_option Elab.async false
set_option linter.all false
set_option maxRecDepth 100000
set_option maxHeartbeats 4000000
namespace TW
open PySem PySem.Spec PyProof.Rows L2 PySem.W

/-- the set of the keys ks (n of them, each once) at a -/
def SKO (w : World) (a : Addr) (ks : List Key) (n : Nat) : HO := .ext fun h => KS w h a ks n
theorem sko_ok {w : World} {P : Program} {H : Hp} {h : Heap} {a : Addr} {ks : List Key} {n : Nat} (R : KS w h a ks n) : ObjOk P w H h a (SKO w a ks n) := by
  obtain ⟨o, es, ep, t, ⟨ho, r1⟩, r⟩ := id R
  exact ⟨R, ⟨o, ho⟩, fun h1 h2 q k => q.at k⟩
section
variable {X : Cx} {pins : List (Addr × Obj)} {σ : L2.St} {H : Hp} {s : Shared}
theorem sko_get {a : Addr} {ks : List Key} {n : Nat} (I : Inv X pins σ H s) (ha : H a = some (SKO X.w a ks n)) : KS X.w s.heap a ks n := (I.hok a _ ha).1
theorem ks_count {w : World} {h : Heap} {a : Addr} {ks : List Key} {n : Nat} (R : KS w h a ks n) : ∃ l : List Key, l.Nodup ∧ l.length = n ∧ ∀ k, k ∈ l ↔ k ∈ ks := by
  obtain ⟨o, es, ep, t, r1, ⟨g, nd, m⟩, ⟨_, _, hn⟩, _⟩ := R
  exact ⟨es.toList.map kOf, nd, by rw [List.length_map, Array.length_toList]; exact hn, fun k => (m k).symm⟩
theorem relV_key {k : Key} {u : Value} (r : RelV (kV k) u) : keyIs k u = true := by
  cases k with
  | inl i => obtain ⟨t, rfl⟩ := r; exact keyIs_int i t
  | inr x => obtain ⟨t, rfl⟩ := r; exact keyIs_str x t
theorem key_relV {k : Key} {u : Value} (h : keyIs k u = true) : RelV (kV k) u := by
  rcases keyIs_shape h with ⟨i, t, rfl, rfl⟩ | ⟨x, t, rfl, rfl⟩ <;> exact ⟨t, rfl⟩
theorem keysAre_of : ∀ {ks : List Key} {its : List Value}, Vals (ks.map kV) its → KeysAre its.toArray ks
  | [], _, r => by cases r; exact ⟨rfl, fun i v h => by simp at h⟩
  | k :: ks, _, r => by
    cases r with
    | @cons _ u _ us r1 r2 =>
      obtain ⟨h1, h2⟩ := keysAre_of r2
      refine ⟨by simpa using h1, fun i v h => ?_⟩
      cases i with
      | zero => exact ⟨k, rfl, by simp at h; exact h ▸ relV_key r1⟩
      | succ i => exact h2 i v (by simpa using h)
/-- set(xs) of a list or a tuple of ints and texts -/
def rSetK (K : PySem.W.Frag) (w : World) : List V → Hp → VK → Prop := fun vs H Q => ∃ (p : Addr) (ks : List Key), vs = [.ref p] ∧ (SqL K H p (ks.map kV) ∨ SqT K H p (ks.map kV)) ∧ ks.length ≤ 4090 ∧
  ∀ q n, H q = none → n ≤ ks.length → (∃ l : List Key, l.Nodup ∧ l.length = n ∧ ∀ k, k ∈ l ↔ k ∈ ks) → Q (.ref q) (upd H q (SKO w q ks n))
theorem cr_setK (K : PySem.W.Frag) (w : World) (hc : X.calm = true := by rfl) (hK : X.K = K := by rfl) (hw : X.w = w := by rfl) : CallR X (.type "set") (rSetK K w) := by
  subst hK hw
  intro pins s σ H vs us Q I r h
  obtain ⟨p, ks, rfl, hs, hl, q⟩ := h
  rw [Vals.ref1 r]
  have go : ∀ {its : List Value}, Vals (ks.map kV) its → (s.heap.IsTuple p its.toArray ∨ s.heap.IsList p its.toArray) → wpAny (model X.prog X.w) X.A (call (.type "set") [.ref p]) (EP X pins σ Q) X.xe s := fun {its} rv ht =>
    call_set_keys ks (I.ok.hd hc) ht (keysAre_of rv) (by show ks.length + 1 < 4096; omega) fun h' tk c hk hcn k => by
      have I1 : Inv X pins σ (upd H s.heap.objs.size (SKO X.w s.heap.objs.size ks c)) { s with heap := h', toks := tk } := I.laid k (Nat.le_refl _) (sko_ok hk)
      exact ⟨.ref _, _, I1, rfl, q _ c (I.hok.fresh (Nat.le_refl _)) hcn (ks_count hk)⟩
  rcases hs with hs | hs
  · obtain ⟨its, rv, pl, _⟩ := I.list hs
    exact go rv (.inr pl.isList)
  · obtain ⟨its, rv, pl, _⟩ := I.tuple hs
    exact go rv (.inl pl)
/-- len(s) -/
def rLenK (w : World) : List V → Hp → VK → Prop := fun vs H Q => ∃ (a : Addr) (ks : List Key) (n : Nat), vs = [.ref a] ∧ H a = some (SKO w a ks n) ∧ Q (.int n) H
theorem cr_lenK (w : World) (hw : X.w = w := by rfl) : CallR X (.builtin "len") (rLenK w) := by
  subst hw
  intro pins s σ H vs us Q I r h
  obtain ⟨a, ks, n, rfl, ha, q⟩ := h
  rw [Vals.ref1 r]
  obtain ⟨o, es, ep, t, ⟨ho, hex, hd⟩, _, ⟨hb, hf, hn⟩, _⟩ := sko_get I ha
  exact call_len_set ho hex hd hf (by have := hb; unfold scanBound at this; omega) ⟨.int n, H, I.tok _, ⟨_, by rw [hn]⟩, q⟩
/-- a text at or ahead of another -/
def sle (x y : Str) : Bool := decide (x.cps.toList ≤ y.cps.toList)
theorem sle_trans (x y z : Str) (h1 : sle x y = true) (h2 : sle y z = true) : sle x z = true := by
  unfold sle at *
  rw [decide_eq_true_eq] at *
  exact List.le_trans h1 h2
theorem sle_total (x y : Str) : (sle x y || sle y x) = true := by
  unfold sle
  rw [Bool.or_eq_true, decide_eq_true_eq, decide_eq_true_eq]
  exact List.le_total _ _
theorem sle_antisymm (x y : Str) (h1 : sle x y = true) (h2 : sle y x = true) : x = y := by
  unfold sle at *
  rw [decide_eq_true_eq] at *
  exact str_of_cps (List.le_antisymm h1 h2)
theorem nodup_of_map {α γ : Type} (f : α → γ) {l : List α} (h : (l.map f).Nodup) : l.Nodup := (List.pairwise_map.mp h).imp fun q e => q (by rw [e])
theorem mem_map_inl {ks : List Int} {k : Int} : (Sum.inl k : Key) ∈ ks.map Sum.inl ↔ k ∈ ks := by simp
theorem mem_map_inr {ks : List Str} {k : Str} : (Sum.inr k : Key) ∈ ks.map Sum.inr ↔ k ∈ ks := by simp
theorem vals_each {β : Type} {f : β → V} : ∀ {out : List Value} {bs : List β} (R : Value → β → Prop), (∀ u b, R u b → RelV (f b) u) → EachIs R out bs → Vals (bs.map f) out
  | _, _, _, _, .nil => .nil
  | _, _, R, g, .cons h t => .cons (g _ _ h) (vals_each R g t)
theorem laid_new {p : Addr} {o : HO} {s' : Shared} (I : Inv X pins σ H s) (k : ∀ b u, s.heap.get? b = some u → s'.heap.get? b = some u) (g : s'.gens = s.gens) (o1 : s'.os = s.os) (hp : s.heap.objs.size ≤ p) (ok : ObjOk X.prog X.w (upd H p o) s'.heap p o) :
    Inv X pins σ (upd H p o) s' ∧ H p = none := by
  have hn : H p = none := I.hok.fresh hp
  exact ⟨I.call' (ch := []) o1 (Un.laid k hp hn) (I.hok.laid k hp ok) (by rw [g]; exact I.bare) (fun _ z => nomatch z), hn⟩
/-- sorted(s), s a set of ints -/
def rSortedKI (w : World) : List V → Hp → VK → Prop := fun vs H Q => ∃ (a : Addr) (ks : List Int) (n : Nat), vs = [.ref a] ∧ H a = some (SKO w a (ks.map Sum.inl) n) ∧
  ∀ (ns : List Int) p, ns.Pairwise (· < ·) → (∀ k, k ∈ ns ↔ k ∈ ks) → ns.length = n → H p = none → Q (.ref p) (upd H p (.lst (ns.map V.int)))
theorem cr_sortedKI (w : World) (hu : X.A.units + 8 < cLine) (hc : X.calm = true := by rfl) (hw : X.w = w := by rfl) : CallR X (.builtin "sorted") (rSortedKI w) := by
  subst hw
  intro pins s σ H vs us Q I r h
  obtain ⟨a, ks, n, rfl, ha, q⟩ := h
  rw [Vals.ref1 r]
  have mem : ∀ {k : Key}, k ∈ ks.map Sum.inl → ∃ i, k = Sum.inl i := fun hk => by
    obtain ⟨i, _, e⟩ := List.mem_map.mp hk
    exact ⟨i, e.symm⟩
  refine sorted_ks (β := Int) (enc := fun i => .int i) Sum.inl (fun k => match k with | .inl i => i | .inr _ => 0) (fun k hk => ?_) (fun k u h hk hi => ?_) (fun _ _ => by simp [alike]) (fun b => ⟨by simp, fun xs => by simp⟩) (fun b => by simp [PyData.depth])
    (sko_get I ha) (I.ok.hd hc) hu fun s' p out c bs k1 g1 o1 hp hc hz e nd hm hn => ?_
  · obtain ⟨i, rfl⟩ := mem hk; rfl
  · obtain ⟨i, rfl⟩ := mem hk
    rcases keyIs_shape hi with ⟨j, t, ej, rfl⟩ | ⟨x, t, ej, rfl⟩
    · cases ej; exact ⟨[], .int _ _⟩
    · cases ej
  · have pm : (bs.mergeSort (dataLe false fun i => PyData.int i)).Perm bs := List.mergeSort_perm _ _
    have hnd : bs.Nodup := nodup_of_map _ nd
    have hv : Vals ((bs.mergeSort (dataLe false fun i => PyData.int i)).map V.int) out := vals_each _ (fun u b hb => key_relV (k := Sum.inl b) hb) e
    have pw : (bs.mergeSort (dataLe false fun i => PyData.int i)).Pairwise (· < ·) := by
      have z := List.pairwise_mergeSort (le := fun a b : Int => decide (a ≤ b)) (fun a b c h1 h2 => by simp only [decide_eq_true_eq] at *; omega) (fun a b => by simp only [Bool.or_eq_true, decide_eq_true_eq]; omega) bs
      rw [← dataLe_int (fun b => b)] at z
      refine lt_of_le_nodup _ ?_ (pm.nodup_iff.mpr hnd)
      rw [dataLe_int (fun b => b)] at z ⊢
      exact z.imp fun h => by simpa using h
    obtain ⟨I2, hn'⟩ := laid_new I (o := .lst ((bs.mergeSort (dataLe false fun i => PyData.int i)).map V.int)) k1 g1 o1 hp ⟨by rw [hv.length]; exact hz, out, c, hv, hc⟩
    refine ⟨.ref p, _, I2, rfl, q _ p pw (fun k => ?_) (by rw [pm.length_eq]; exact hn) hn'⟩
    rw [pm.mem_iff]
    have z := hm (Sum.inl k)
    rw [mem_map_inl, mem_map_inl] at z
    exact z
/-- sorted(s), s a set of texts -/
def rSortedKS (w : World) : List V → Hp → VK → Prop := fun vs H Q => ∃ (a : Addr) (ks : List Str) (n : Nat), vs = [.ref a] ∧ H a = some (SKO w a (ks.map Sum.inr) n) ∧
  ∀ (ns : List Str) p, ns.Pairwise (fun x y => sle x y = true) → ns.Nodup → (∀ k, k ∈ ns ↔ k ∈ ks) → ns.length = n → H p = none → Q (.ref p) (upd H p (.lst (ns.map V.str)))
theorem cr_sortedKS (w : World) (hu : X.A.units + 8 < cLine) (hc : X.calm = true := by rfl) (hw : X.w = w := by rfl) : CallR X (.builtin "sorted") (rSortedKS w) := by
  subst hw
  intro pins s σ H vs us Q I r h
  obtain ⟨a, ks, n, rfl, ha, q⟩ := h
  rw [Vals.ref1 r]
  have mem : ∀ {k : Key}, k ∈ ks.map Sum.inr → ∃ i, k = Sum.inr i := fun hk => by
    obtain ⟨i, _, e⟩ := List.mem_map.mp hk
    exact ⟨i, e.symm⟩
  refine sorted_ks (β := Str) (enc := fun i => .str i) Sum.inr (fun k => match k with | .inr i => i | .inl _ => Str.empty) (fun k hk => ?_) (fun k u h hk hi => ?_) (fun _ _ => by simp [alike]) (fun b => ⟨by simp, fun xs => by simp⟩) (fun b => by simp [PyData.depth])
    (sko_get I ha) (I.ok.hd hc) hu fun s' p out c bs k1 g1 o1 hp hc hz e nd hm hn => ?_
  · obtain ⟨i, rfl⟩ := mem hk; rfl
  · obtain ⟨i, rfl⟩ := mem hk
    rcases keyIs_shape hi with ⟨j, t, ej, rfl⟩ | ⟨x, t, ej, rfl⟩
    · cases ej
    · cases ej; exact ⟨[], .str _ _⟩
  · have pm : (bs.mergeSort (dataLe false fun i => PyData.str i)).Perm bs := List.mergeSort_perm _ _
    have hnd : bs.Nodup := nodup_of_map _ nd
    have hv : Vals ((bs.mergeSort (dataLe false fun i => PyData.str i)).map V.str) out := vals_each _ (fun u b hb => key_relV (k := Sum.inr b) hb) e
    have pw : (bs.mergeSort (dataLe false fun i => PyData.str i)).Pairwise (fun x y => sle x y = true) := by
      rw [dataLe_str (fun b => b)]
      exact List.pairwise_mergeSort (le := sle) sle_trans sle_total bs
    obtain ⟨I2, hn'⟩ := laid_new I (o := .lst ((bs.mergeSort (dataLe false fun i => PyData.str i)).map V.str)) k1 g1 o1 hp ⟨by rw [hv.length]; exact hz, out, c, hv, hc⟩
    refine ⟨.ref p, _, I2, rfl, q _ p pw (pm.nodup_iff.mpr hnd) (fun k => ?_) (by rw [pm.length_eq]; exact hn) hn'⟩
    rw [pm.mem_iff]
    have z := hm (Sum.inr k)
    rw [mem_map_inr, mem_map_inr] at z
    exact z

/-! ### sorted of a list of data -/
theorem dpAll_map {K : PySem.W.Frag} {H : Hp} {β : Type} {enc : β → PyData} : ∀ {out : List Value} {bs : List β}, EachIs (fun u b => ∃ v, L2.RelV v u ∧ Dp K H v (enc b)) out bs → ∃ ys, Vals ys out ∧ DpAll K H ys (bs.map enc)
  | _, _, .nil => ⟨[], .nil, .nil⟩
  | _, _, .cons ⟨v, r, d⟩ t => by
    obtain ⟨ys, h1, h2⟩ := dpAll_map t
    exact ⟨v :: ys, .cons r h1, .cons d h2⟩
theorem each_dp {K : PySem.W.Frag} {H : Hp} {β : Type} {enc : β → PyData} : ∀ {bs : List β} {xs : List V} {us : List Value}, DpAll K H xs (bs.map enc) → Vals xs us → EachIs (fun u b => ∃ v, L2.RelV v u ∧ Dp K H v (enc b)) us bs
  | [], _, _, h, r => by
    cases h
    cases r
    exact .nil
  | b :: bs, _, _, h, r => by
    cases h with
    | cons h1 h2 =>
      cases r with
      | cons r1 r2 => exact .cons ⟨_, r1, h1⟩ (each_dp h2 r2)
end
end TW
set_option Elab.async false
set_option linter.all false
set_option maxRecDepth 100000
set_option maxHeartbeats 4000000
/-! {k: v for a in xs if .. for b in ys if ..}, keys ints and texts -/
namespace TW
open PySem PySem.Spec PyProof.Rows L2

abbrev DCX (kx vx t0 i0 : Expr) (f0 : List Expr) (t1 i1 : Expr) (f1 : List Expr) (scope : Scope) (pos : Pos) : Expr := .DictComp kx vx [⟨t0, i0, f0, 0⟩, ⟨t1, i1, f1, 0⟩] scope pos
section
variable {prog : Program} {w : World} {A : Around} {R : Result → Shared → Prop} {s : Shared} {kx vx t0 i0 t1 i1 : Expr} {f0 f1 : List Expr} {scope : Scope} {pos : Pos} {it : Value} {D : Addr} {env : Env}
/-- the tests of a clause -/
abbrev tst (fs : List Expr) (env : Env) : Sem Bool := forIn fs true fun c r => if r = true then do let ok ← isTrue c env (eval c env); pure (ForInStep.yield ok) else pure (ForInStep.yield r)
/-- a turn of a clause's loop: the next item stored, tested; then go -/
abbrev turnW (prog : Program) (w : World) (A : Around) (t : Expr) (fs : List Expr) (it : Value) (env : Env) (fin : Shared → Prop) (go : Shared → Prop) (skip : Shared → Prop) (R : Result → Shared → Prop) (s : Shared) : Prop :=
  wpAny (model prog w) A (pyNext it) (fun r z => match r with
    | none => fin z
    | some v => wpAny (model prog w) A (letOwnedTupleGo t it v) (fun _ z => wpAny (model prog w) A (assign t env v) (fun _ z => wpAny (model prog w) A (tst fs env) (fun ok z => if ok = true then go z else skip z)
        (notedBy (model prog w) A env fun e z => R (.error e) z) z) (notedBy (model prog w) A env fun e z => R (.error e) z) z) (notedBy (model prog w) A env fun e z => R (.error e) z) z) (notedBy (model prog w) A env fun e z => R (.error e) z) s
theorem turnD_out : compTurn (DCX kx vx t0 i0 f0 t1 i1 f1 scope pos) 0 it (.ref D) env = (do
      standAt i0.pos
      match ← pyNext it with
      | none => pure (.done .next)
      | some v => do
        letOwnedTupleGo t0 it v
        assign t0 env v
        let ok ← tst f0 env
        if ok = true then do
          let x ← eval i1 env
          standAt i1.pos
          let x ← foldedSetIterable i1 env x
          let _ ← runOwn (.compStart (DCX kx vx t0 i0 f0 t1 i1 f1 scope pos) 1 (← holding [x] (pyIter x)) (.ref D) env) env
          again (.compLoop (DCX kx vx t0 i0 f0 t1 i1 f1 scope pos) 0 it (.ref D) env)
        else again (.compLoop (DCX kx vx t0 i0 f0 t1 i1 f1 scope pos) 0 it (.ref D) env)) := by rfl
theorem turnD_in : compTurn (DCX kx vx t0 i0 f0 t1 i1 f1 scope pos) 1 it (.ref D) env = (do
      standAt i1.pos
      match ← pyNext it with
      | none => pure (.done .next)
      | some v => do
        letOwnedTupleGo t1 it v
        assign t1 env v
        let ok ← tst f1 env
        if ok = true then do
          (do let kv ← eval kx env
              let vv ← holding [kv] (eval vx env)
              standAt { kx.pos with endLine := vx.pos.endLine, endCol := vx.pos.endCol }
              holding [kv, vv] (dictSet D kv vv))
          again (.compLoop (DCX kx vx t0 i0 f0 t1 i1 f1 scope pos) 1 it (.ref D) env)
        else again (.compLoop (DCX kx vx t0 i0 f0 t1 i1 f1 scope pos) 1 it (.ref D) env)) := by rfl
theorem loopD_out (hs : ∀ x, foldedSetIterable i1 env x = pure x) (I : Nat → Shared → Prop)
    (turn : ∀ n s, I n s → turnW prog w A t0 f0 it env (R (.ok .next)) (fun z => wpAny (model prog w) A (eval i1 env) (fun x z => wpAny (model prog w) A (pyIter x) (fun it1 z =>
        codeAny (model prog w) A (.compStart (DCX kx vx t0 i0 f0 t1 i1 f1 scope pos) 1 it1 (.ref D) env) (fun r z => match r with
          | .ok _ => ∃ m, m < n ∧ I m z
          | .error _ => False) z) (notedBy (model prog w) A env fun e z => R (.error e) z) z) (notedBy (model prog w) A env fun e z => R (.error e) z) z) (fun z => ∃ m, m < n ∧ I m z) R s)
    (n : Nat) (h : I n s) : codeAny (model prog w) A (.compLoop (DCX kx vx t0 i0 f0 t1 i1 f1 scope pos) 0 it (.ref D) env) R s := by
  refine codeAny_loop rfl I (fun n s hI => ?_) n h
  show wpAny _ A ((compTurn (DCX kx vx t0 i0 f0 t1 i1 f1 scope pos) 0 it (.ref D) env).onRaise (fun x => do noteFrame x env; theTreesLotGoes x)) _ _ s
  refine wpAny_noted ?_
  rw [turnD_out]
  refine wpAny_bind (wpAny_standAt (wpAny_bind (thn (turn n s hI) fun r z hz => ?_)))
  cases r with
  | none => exact wpAny_pure hz
  | some v =>
    refine wpAny_bind (thn hz fun _ z hz => wpAny_bind (thn hz fun _ z hz => wpAny_bind (thn hz fun ok z hz => ?_)))
    cases ok with
    | false => exact wpAny_pure ⟨rfl, hz⟩
    | true =>
      refine wpAny_bind (thn hz fun x z hz => wpAny_bind (wpAny_standAt (wpAny_bind (wpAny_of_eq (hs x) (wpAny_bind (wpAny_holding (thn hz fun it1 z hz => wpAny_bind (wpAny_runOwn ?_))))))))
      rw [Around.mark_none]
      refine codeAny_mono hz fun r z hr => ?_
      cases r with
      | ok f => first | exact wpAny_pure ⟨rfl, hr⟩ | exact wpAny_bind (wpAny_pure (wpAny_pure ⟨rfl, hr⟩))
      | error e => exact hr.elim
theorem loopD_in (I : Nat → Shared → Prop)
    (turn : ∀ n s, I n s → turnW prog w A t1 f1 it env (R (.ok .next)) (fun z => wpAny (model prog w) A (eval kx env) (fun kv z => wpAny (model prog w) A (eval vx env) (fun vv z =>
        wpAny (model prog w) A (dictSet D kv vv) (fun _ z => ∃ m, m < n ∧ I m z) (notedBy (model prog w) A env fun e z => R (.error e) z) z) (notedBy (model prog w) A env fun e z => R (.error e) z) z) (notedBy (model prog w) A env fun e z => R (.error e) z) z) (fun z => ∃ m, m < n ∧ I m z) R s)
    (n : Nat) (h : I n s) : codeAny (model prog w) A (.compLoop (DCX kx vx t0 i0 f0 t1 i1 f1 scope pos) 1 it (.ref D) env) R s := by
  refine codeAny_loop rfl I (fun n s hI => ?_) n h
  show wpAny _ A ((compTurn (DCX kx vx t0 i0 f0 t1 i1 f1 scope pos) 1 it (.ref D) env).onRaise (fun x => do noteFrame x env; theTreesLotGoes x)) _ _ s
  refine wpAny_noted ?_
  rw [turnD_in]
  refine wpAny_bind (wpAny_standAt (wpAny_bind (thn (turn n s hI) fun r z hz => ?_)))
  cases r with
  | none => exact wpAny_pure hz
  | some v =>
    refine wpAny_bind (thn hz fun _ z hz => wpAny_bind (thn hz fun _ z hz => wpAny_bind (thn hz fun ok z hz => ?_)))
    cases ok with
    | false => exact wpAny_pure ⟨rfl, hz⟩
    | true => exact wpAny_bind (wpAny_bind (thn hz fun kv z hz => wpAny_bind (wpAny_holding (thn hz fun vv z hz => wpAny_bind (wpAny_standAt (wpAny_holding (thn hz fun _ z hz => wpAny_pure ⟨rfl, hz⟩)))))))
theorem startD1 (h0 : codeAny (model prog w) A (.compLoop (DCX kx vx t0 i0 f0 t1 i1 f1 scope pos) 1 it (.ref D) env) R s)
    (h : wpAny (model prog w) A (pyIter it) (fun it' z => codeAny (model prog w) A (.compLoop (DCX kx vx t0 i0 f0 t1 i1 f1 scope pos) 1 it' (.ref D) env) R z) (notedBy (model prog w) A env fun x z => R (.error x) z) s) :
    codeAny (model prog w) A (.compStart (DCX kx vx t0 i0 f0 t1 i1 f1 scope pos) 1 it (.ref D) env) R s := by
  refine codeAny_of_tree ?_
  show wpAny _ _ ((compStart (DCX kx vx t0 i0 f0 t1 i1 f1 scope pos) 1 it (.ref D) env).onRaise (fun x => do noteFrame x env; standAt theWindowsPlace)) _ _ s
  refine wpAny_notedAt ?_
  unfold compStart
  show wpAny _ _ (ask >>= _) _ _ s
  refine wpAny_bind (wpAny_askSetting (wpAny_ite ?_))
  split
  · first
      | exact wpAny_bind (wpAny_pure (wpAny_pure (And.intro rfl h0)))
      | exact wpAny_pure (And.intro rfl h0)
  · first
      | exact wpAny_bind (wpAny_rule (wpAny_bind (wpAny_standAt (wpAny_bind (thn h fun it' z hz => wpAny_pure (And.intro rfl hz))))))
      | (refine wpAny_bind (wpAny_rule ?_); show wpAny _ _ (standAt i1.pos >>= _) _ _ s; exact wpAny_bind (wpAny_standAt (wpAny_bind (thn h fun it' z hz => wpAny_pure (And.intro rfl hz)))))
end
end TW
set_option Elab.async false
set_option linter.all false
set_option maxRecDepth 100000
set_option maxHeartbeats 4000000
namespace TW
open PySem PySem.Spec PyProof.Rows L2
section
variable {X : Cx}
/-- one turn's reading of a clause: the item stored, tested -/
abbrev turnR (g : TG) (tt : TT) (vs : List Nat) (σ : L2.St) (x : V) (H' : Hp) (yes : L2.St → Hp → Prop) (no : Hp → Prop) : Prop :=
  g x (wipe σ vs) H' fun σ2 H2 => wipe σ2 vs = wipe σ vs ∧ tt σ2 H2 fun b H3 => if b = true then yes σ2 H3 else no H3
/-- a loop by a walk J: W says what holds at the turns -/
abbrev loopR (J : It) (W : Nat → Nat → Hp → Prop) (stop : Hp → Prop) (turn : V → Hp → (Hp → Prop) → Prop) : Prop :=
  ∀ i m H, W i m H → (J.stop i H ∧ stop H) ∨ (J.go i H ∧ ∃ Nx : Hp → Prop, (∀ H', Nx H' → ∃ m', m' < m ∧ W (i + 1) m' H') ∧ ∀ x H', J.yld i H x H' → turn x H' Nx)
def tDc2 (wi : TI) (g : TG) (tt : TT) (wi1 : TI) (g1 : TG) (tt1 : TT) (tk tv : TE) (vs vs1 : List Nat) : TE := fun σ H Q => wi σ H fun J H1 => ∀ D, H1 D = none → ∃ W : Nat → Nat → Hp → Prop, (∃ m, W 0 m (upd H1 D (.dK []))) ∧
  loopR J W (fun H => Q (.ref D) H) fun x H' Nx => turnR g tt vs σ x H' (fun σ2 H3 => wi1 σ2 H3 fun J1 H4 => ∃ W1 : Nat → Nat → Hp → Prop, (∃ m, W1 0 m H4) ∧
    loopR J1 W1 Nx fun x H' Nx1 => turnR g1 tt1 vs1 σ2 x H' (fun σ3 H6 => tk σ3 H6 fun y H7 => tv σ3 H7 fun z H8 => ∃ kvs k, y = kV k ∧ H8 D = some (.dK kvs) ∧ kvs.length < sizeLine ∧ Nx1 (upd H8 D (.dK (putK kvs k z)))) Nx1) Nx
/-- what the parts of such a display are, in its block -/
structure Blk2 (X : Cx) (kx vx t0 : Expr) (f0 : List Expr) (t1 i1 : Expr) (f1 : List Expr) (scope : Scope) (g : TG) (tt : TT) (wi1 : TI) (g1 : TG) (tt1 : TT) (tk tv : TE) : Prop where
  pg : ∀ (s : Shared) (H : Hp) (C : Addr) (cl : List (Str × Addr)) (fp : List Addr), PG (X.blk s H scope (compEnvC scope cl C X.env) fp) t0 g
  pt : ∀ (s : Shared) (H : Hp) (C : Addr) (cl : List (Str × Addr)) (fp : List Addr), PTs (X.blk s H scope (compEnvC scope cl C X.env) fp) f0 tt
  pi : ∀ (s : Shared) (H : Hp) (C : Addr) (cl : List (Str × Addr)) (fp : List Addr), PI (X.blk s H scope (compEnvC scope cl C X.env) fp) t1 i1 wi1
  pg1 : ∀ (s : Shared) (H : Hp) (C : Addr) (cl : List (Str × Addr)) (fp : List Addr), PG (X.blk s H scope (compEnvC scope cl C X.env) fp) t1 g1
  pt1 : ∀ (s : Shared) (H : Hp) (C : Addr) (cl : List (Str × Addr)) (fp : List Addr), PTs (X.blk s H scope (compEnvC scope cl C X.env) fp) f1 tt1
  pk : ∀ (s : Shared) (H : Hp) (C : Addr) (cl : List (Str × Addr)) (fp : List Addr), PE (X.blk s H scope (compEnvC scope cl C X.env) fp) kx tk
  pv : ∀ (s : Shared) (H : Hp) (C : Addr) (cl : List (Str × Addr)) (fp : List Addr), PE (X.blk s H scope (compEnvC scope cl C X.env) fp) vx tv
theorem dc2_core {pins : List (Addr × Obj)} {s : Shared} {σ : L2.St} {H : Hp} {Q : VK} {pos' : Pos} {use : Option (Value → Sem Unit)} {Qf : Value → Shared → Prop} {kx vx t0 i0 t1 i1 : Expr} {f0 f1 : List Expr} {scope : Scope} {own : List (Str × Nat)} {vs1 : List Nat} {pos : Pos} {wi wi1 : TI} {g g1 : TG} {tt tt1 : TT} {tk tv : TE} (hc : X.calm = true) (hN : X.N.Nodup) (I : Inv X pins σ H s) (hi : PI X t0 i0 wi) (ok : BlkOk X.N X.env.scope scope own) (hv : ∀ i ∈ vs1, i ∈ own.map (·.2))
    (B : Blk2 X kx vx t0 f0 t1 i1 f1 scope g tt wi1 g1 tt1 tk tv) (hs : ∀ x, foldedSetIterable i0 X.env x = pure x) (hs1 : ∀ env x, foldedSetIterable i1 env x = pure x) (h : tDc2 wi g tt wi1 g1 tt1 tk tv (own.map (·.2)) vs1 σ H Q)
    (hRR : ∀ D C s' m H', Inv X pins σ H' s' → Q (.ref D) H' → s'.heap.Ns C m → FpOk X pins H' C → compPost (model X.prog X.w) X.A X.xe use Qf (.ref D) C (.ok .next) s') :
    wpAny (model X.prog X.w) X.A (comprehension (.DictComp kx vx [⟨t0, i0, f0, 0⟩, ⟨t1, i1, f1, 0⟩] scope pos) scope X.env pos' newDict false (eval i0 X.env) use) Qf X.xe s := by
  have hfree : ∀ y ∈ scope.names, y.2 = .free → ∃ c, X.env.cells.lookup y.1 = some c := fun y hy e => (ok.free y hy e).elim (fun k => I.ok.has _ (.inl k)) fun k => I.ok.has _ (.inr k)
  refine wpAny_comprehension_free (use := use) rfl hs (closure_ok hfree) ok.kind (fun y hy e => by rw [ok.uniq y hy, e]) (thn (hi.run pins s σ H _ I h) fun xv s1 hx => thn hx fun itv s2 h2 => ?_)
  obtain ⟨it, fp, tn, J, H2, rfl, I2, T, st2, f2, q⟩ := h2
  refine wpAny_newObj_type (newEnv_comp ?_)
  generalize hD : s2.heap.objs.size = D
  have hDn : H2 D = none := I2.hok.fresh (Nat.le_of_eq hD)
  obtain ⟨W, ⟨m0, w0⟩, turn⟩ := q D hDn
  generalize hs3 : ({ s2 with heap := s2.heap.push { cls := .type "dict", data := .dict #[] } } : Shared) = s3
  have h3 : s3.heap = s2.heap.push { cls := .type "dict", data := .dict #[] } := by rw [← hs3]
  have I3 : Inv X pins σ (upd H2 D (.dK [])) s3 := by
    rw [← hs3, ← hD]
    exact I2.laid (t' := s2.toks) (fun b o e => Heap.get?_push_of_some _ e) (Nat.le_refl _) (dk_empty s2.heap I2.big)
  have f3 : ∀ b ∈ fp, FpOk X pins (upd H2 D (.dK [])) b ∧ b < s3.heap.objs.size := fun b hb => by
    obtain ⟨o, e, _⟩ := T.obj _ _ st2 b hb
    have lt := Heap.lt_size e
    refine ⟨⟨?_, (f2 b hb).2⟩, by rw [h3, Heap.size_push]; exact Nat.lt_succ_of_lt lt⟩
    rw [upd_ne (hD ▸ Nat.ne_of_lt lt)]
    exact (f2 b hb).1
  have st3 : tn 0 s3.heap := T.keep _ _ _ st2 fun b _ o e => h3 ▸ Heap.get?_push_of_some _ e
  have I4 := block_start I3 ok hN f3
  generalize hcl : cellsFrom (s3.heap.objs.size + 1) scope.names (cloFrom X.env.cells scope.names []) = cl at I4 ⊢
  have pg := B.pg s3 (upd H2 D (.dK [])) s3.heap.objs.size cl fp
  have pt := B.pt s3 (upd H2 D (.dK [])) s3.heap.objs.size cl fp
  have pI := B.pi s3 (upd H2 D (.dK [])) s3.heap.objs.size cl fp
  have pg1 := B.pg1 s3 (upd H2 D (.dK [])) s3.heap.objs.size cl fp
  have pt1 := B.pt1 s3 (upd H2 D (.dK [])) s3.heap.objs.size cl fp
  have pk := B.pk s3 (upd H2 D (.dK [])) s3.heap.objs.size cl fp
  have pv := B.pv s3 (upd H2 D (.dK [])) s3.heap.objs.size cl fp
  show codeAny _ _ (.compStart (DCX kx vx t0 i0 f0 t1 i1 f1 scope pos) 0 (.ref it) (.ref D) (compEnvC scope cl s3.heap.objs.size X.env)) (compPost (model X.prog X.w) X.A X.xe use Qf (.ref D) s3.heap.objs.size) { s3 with heap := pushCells (s3.heap.push { cls := .type "dict", data := .dict #[] }) scope.names }
  have nfp : ∀ b ∈ fp, (upd H2 D (.dK [])) b = none := fun b hb => (f3 b hb).1.1
  generalize hce : compEnvC scope cl s3.heap.objs.size X.env = ce at I4 pg pt pI pg1 pt1 pk pv ⊢
  have cL : ce.locals = s3.heap.objs.size := by rw [← hce]; rfl
  generalize hH3 : upd H2 D (.dK []) = H3 at I3 I4 pg pt pI pg1 pt1 pk pv w0 nfp f3
  generalize hs4 : ({ s3 with heap := pushCells (s3.heap.push { cls := .type "dict", data := .dict #[] }) scope.names } : Shared) = s4 at I4 ⊢
  have st4 : tn 0 s4.heap := T.keep _ _ _ st3 fun b _ o e => hs4 ▸ pushCells_keeps _ _ _ _ (Heap.get?_push_of_some _ e)
  have stat : ∀ {σ' : L2.St} {H' : Hp} {s' : Shared}, Inv (X.blk s3 H3 scope ce fp) [] σ' H' s' → (∀ b ∈ fp, H' b = none) → ∀ b ∈ fp, FpOk (X.blk s3 H3 scope ce fp) [] H' b := fun {σ' H' s'} I' hn b hb =>
    ⟨hn b hb, (I'.ok.exf b hb).1, I'.ok.exfs b hb, .inl hb, fun x c e => (I'.ok.exf b hb).2 x c e, fun p hp => absurd (show p ∈ ([] : List (Addr × Obj)) ++ [] from hp) (by simp)⟩
  have loop : codeAny (model X.prog X.w) X.A (.compLoop (DCX kx vx t0 i0 f0 t1 i1 f1 scope pos) 0 (.ref it) (.ref D) ce) (compPost (model X.prog X.w) X.A X.xe use Qf (.ref D) s3.heap.objs.size) s4 := by
    refine loopD_out (hs1 ce) (fun n s' => ∃ i H', Inv (X.blk s3 H3 scope ce fp) [] (wipe σ (own.map (·.2))) H' s' ∧ tn i s'.heap ∧ (∀ b ∈ fp, H' b = none) ∧ W i n H') ?_ m0 ⟨0, H3, I4, st4, nfp, w0⟩
    rintro n s5 ⟨i, H5, I5, st5, n5, w5⟩
    rcases turn i n H5 w5 with ⟨stop, qq⟩ | ⟨go, Nx, hNx, step⟩
    · refine thnF (T.done (X.blk s3 H3 scope ce fp) rfl rfl rfl hc i [] s5 _ H5 (fun _ _ => False) I5 (stat I5 n5) st5 stop) fun r s6 ⟨hr, I6⟩ => ?_
      subst hr
      have I7 : Inv X pins σ H5 s6 := I3.call' (ch := fp) I6.os I6.base I6.hok I6.bare fun b hb => by
        obtain ⟨x1, x2, x3, x4, x5, x6⟩ := (f3 b hb).1
        exact ⟨x4, x2, x5, x6⟩
      have nC : H5 s3.heap.objs.size = none := cL ▸ (show H5 ce.locals = none from I6.free)
      obtain ⟨m, hn, _⟩ := I6.loc
      have hn : s6.heap.Ns ce.locals m := hn
      rw [cL] at hn
      exact hRR D _ s6 m H5 I7 qq hn (I3.fpOk (Nat.le_refl _) nC)
    · refine thnF (T.item (X.blk s3 H3 scope ce fp) rfl rfl rfl hc i [] s5 _ H5 (fun _ _ => False) I5 (stat I5 n5) st5 go) fun r s6 ⟨u, hr, h6⟩ => ?_
      subst hr
      refine thnF h6 fun _ s7 ⟨x, H7, I7, r7, y7, st7, n7⟩ => ?_
      refine thnF (pg.run _ s7 _ H7 x u _ (I7.pinned (stat I7 n7) (T.obj _ _ st7)) r7 (step x H7 y7)) fun _ s8 ⟨σ8, H8, I8, hw8, q8⟩ => ?_
      refine thnF (pt.run _ s8 σ8 H8 _ I8 q8) fun b s9 ⟨H9, I9, q9⟩ => ?_
      have fin : ∀ {σ9 : L2.St} {s' : Shared} {H' : Hp}, Inv (X.blk s3 H3 scope ce fp) ([] ++ pinsAt fp s7.heap) σ9 H' s' → (wipe σ (own.map (·.2))).length = σ9.length → (∀ (j : Nat) v, (wipe σ (own.map (·.2)))[j]? = some (some v) → σ9[j]? = some (some v)) → Nx H' →
          ∃ m, m < n ∧ ∃ i H', Inv (X.blk s3 H3 scope ce fp) [] (wipe σ (own.map (·.2))) H' s' ∧ tn i s'.heap ∧ (∀ b ∈ fp, H' b = none) ∧ W i m H' := fun {σ9 s' H'} I' hl hk nx => by
        obtain ⟨m', hm, w'⟩ := hNx H' nx
        have pin' : ∀ b ∈ fp, ∀ o, s7.heap.get? b = some o → s'.heap.get? b = some o ∧ H' b = none := fun b hb o e => by
          have z := I'.pin (b, o) (List.mem_append_right _ (List.mem_append_right _ (mem_pinsAt hb e)))
          exact ⟨z.1, z.2.1⟩
        refine ⟨m', hm, i + 1, H', (I'.unpinned (pins := [])).weak hl hk, T.keep _ _ _ st7 fun b hb o e => (pin' b hb o e).1, fun b hb => ?_, w'⟩
        obtain ⟨o, e, _⟩ := T.obj _ _ st7 b hb
        exact (pin' b hb o e).2
      have l8 : (wipe σ (own.map (·.2))).length = σ8.length := by rw [← hw8, wipe_length]
      have k8 : ∀ (j : Nat) v, (wipe σ (own.map (·.2)))[j]? = some (some v) → σ8[j]? = some (some v) := fun j v e => (wipe_some (vs := own.map (·.2)) (hw8 ▸ e)).1
      have k9 : ∀ (j : Nat) v, (wipe σ (own.map (·.2)))[j]? = some (some v) → (wipe σ8 vs1)[j]? = some (some v) := fun j v e => by
        obtain ⟨e1, e2⟩ := wipe_some (vs := own.map (·.2)) (hw8 ▸ e)
        rw [wipe_out fun z => e2 (hv j z)]
        exact e1
      cases b with
      | false =>
        simp only [Bool.false_eq_true, if_false] at q9 ⊢
        exact fin I9 l8 k8 q9
      | true =>
        simp only [if_true] at q9 ⊢
        refine thnF (pI.run _ s9 σ8 H9 _ I9 q9) fun xv s10 hx => thnF hx fun itv s11 h11 => ?_
        obtain ⟨it1, fp1, tn1, J1, H11, rfl, I11, T1, st11, f11, W1, ⟨m1, w1⟩, turn1⟩ := h11
        have stat1 : ∀ {H' : Hp}, (∀ b ∈ fp1, H' b = none) → ∀ b ∈ fp1, FpOk (X.blk s3 H3 scope ce fp) ([] ++ pinsAt fp s7.heap) H' b := fun hn b hb => ⟨hn b hb, (f11 b hb).2⟩
        have loop1 : codeAny (model X.prog X.w) X.A (.compLoop (DCX kx vx t0 i0 f0 t1 i1 f1 scope pos) 1 (.ref it1) (.ref D) ce)
            (fun r s' => match r with
              | .ok _ => ∃ m, m < n ∧ ∃ i H', Inv (X.blk s3 H3 scope ce fp) [] (wipe σ (own.map (·.2))) H' s' ∧ tn i s'.heap ∧ (∀ b ∈ fp, H' b = none) ∧ W i m H'
              | .error _ => False) s11 := by
          refine loopD_in (fun k s' => ∃ j H', Inv (X.blk s3 H3 scope ce fp) ([] ++ pinsAt fp s7.heap) (wipe σ8 vs1) H' s' ∧ tn1 j s'.heap ∧ (∀ b ∈ fp1, H' b = none) ∧ W1 j k H') ?_ m1
            ⟨0, H11, I11.weak (wipe_length _ _) (fun j v e => (wipe_some e).1), st11, fun b hb => (f11 b hb).1, w1⟩
          rintro k s12 ⟨j, H12, I12, st12, n12, w12⟩
          rcases turn1 j k H12 w12 with ⟨stop1, nx1⟩ | ⟨go1, Nx1, hNx1, step1⟩
          · refine thnF (T1.done (X.blk s3 H3 scope ce fp) rfl rfl rfl hc j _ s12 (wipe σ8 vs1) H12 (fun _ _ => False) I12 (stat1 n12) st12 stop1) fun r s13 ⟨hr, I13⟩ => ?_
            subst hr
            exact fin I13 (l8.trans (wipe_length σ8 vs1).symm) k9 nx1
          · refine thnF (T1.item (X.blk s3 H3 scope ce fp) rfl rfl rfl hc j _ s12 (wipe σ8 vs1) H12 (fun _ _ => False) I12 (stat1 n12) st12 go1) fun r s13 ⟨u1, hr, h13⟩ => ?_
            subst hr
            refine thnF h13 fun _ s14 ⟨x1, H14, I14, r14, y14, st14, n14⟩ => ?_
            refine thnF (pg1.run _ s14 (wipe σ8 vs1) H14 x1 u1 _ (I14.pinned (stat1 n14) (T1.obj _ _ st14)) r14 (step1 x1 H14 y14)) fun _ s15 ⟨σ15, H15, I15, hw15, q15⟩ => ?_
            refine thnF (pt1.run _ s15 σ15 H15 _ I15 q15) fun b1 s16 ⟨H16, I16, q16⟩ => ?_
            have fin1 : ∀ {s' : Shared} {H' : Hp}, Inv (X.blk s3 H3 scope ce fp) (([] ++ pinsAt fp s7.heap) ++ pinsAt fp1 s14.heap) σ15 H' s' → Nx1 H' →
                ∃ m, m < k ∧ ∃ j H', Inv (X.blk s3 H3 scope ce fp) ([] ++ pinsAt fp s7.heap) (wipe σ8 vs1) H' s' ∧ tn1 j s'.heap ∧ (∀ b ∈ fp1, H' b = none) ∧ W1 j m H' := fun {s' H'} I' nx => by
              obtain ⟨m', hm, w'⟩ := hNx1 H' nx
              have pin' : ∀ b ∈ fp1, ∀ o, s14.heap.get? b = some o → s'.heap.get? b = some o ∧ H' b = none := fun b hb o e => by
                have z := I'.pin (b, o) (List.mem_append_right _ (List.mem_append_right _ (mem_pinsAt hb e)))
                exact ⟨z.1, z.2.1⟩
              refine ⟨m', hm, j + 1, H', I'.unpinned.weak (by rw [← hw15, wipe_length]) (fun j v e => (wipe_some (vs := vs1) (hw15 ▸ e)).1), T1.keep _ _ _ st14 fun b hb o e => (pin' b hb o e).1, fun b hb => ?_, w'⟩
              obtain ⟨o, e, _⟩ := T1.obj _ _ st14 b hb
              exact (pin' b hb o e).2
            cases b1 with
            | false =>
              simp only [Bool.false_eq_true, if_false] at q16 ⊢
              exact fin1 I16 q16
            | true =>
              simp only [if_true] at q16 ⊢
              refine thnF (pk.run _ s16 σ15 H16 _ I16 q16) fun z s17 ⟨yk, H17, I17, r17, q17⟩ => ?_
              refine thnF (pv.run _ s17 σ15 H17 _ I17 q17) fun z2 s18 ⟨yv, H18, I18, r18, kvs, kk, ek, hD18, hz18, nx⟩ => ?_
              subst ek
              exact d_dictSet (X := X.blk s3 H3 scope ce fp) I18 hD18 hz18 r17 r18 fun s19 I19 => fin1 I19 nx
        exact startD1 loop1 (T1.self X.A 0 _ _ _ st11 loop1)
  exact codeAny_compStart_dict loop (T.self X.A 0 _ _ _ st4 loop)
theorem pe_dc2 {kx vx t0 i0 t1 i1 : Expr} {f0 f1 : List Expr} {scope : Scope} {own : List (Str × Nat)} {vs1 : List Nat} {pos : Pos} {wi wi1 : TI} {g g1 : TG} {tt tt1 : TT} {tk tv : TE} (hc : X.calm = true) (hN : X.N.Nodup) (hi : PI X t0 i0 wi) (ok : BlkOk X.N X.env.scope scope own) (hv : ∀ i ∈ vs1, i ∈ own.map (·.2))
    (B : Blk2 X kx vx t0 f0 t1 i1 f1 scope g tt wi1 g1 tt1 tk tv) (hs : ∀ x, foldedSetIterable i0 X.env x = pure x := by intro _; rfl) (hs1 : ∀ env x, foldedSetIterable i1 env x = pure x := by intro _ _; rfl) :
    PE X (.DictComp kx vx [⟨t0, i0, f0, 0⟩, ⟨t1, i1, f1, 0⟩] scope pos) (tDc2 wi g tt wi1 g1 tt1 tk tv (own.map (·.2)) vs1) := by
  refine ⟨fun pins s σ H Q I h => ?_⟩
  rw [arm_eval_DictComp]
  refine dc2_core hc hN I hi ok hv B hs hs1 h fun D C s' m H' I' q hn f => ⟨m, hn, fun h'' sb => ?_⟩
  obtain ⟨f0, f1, f2, f3, f4, f5⟩ := f
  exact ⟨.ref D, H', I'.turned (t' := s'.toks) (fun b o hb e => (sb.2 b hb).trans e) f0 f1 f3 f4 f5, rfl, q⟩
theorem sw_trueD {kx vx : Expr} {gs : List Comprehension} {scope : Scope} {pos py : Pos} {y : Str} {l : Nat} {env : Env} (hk : env.scope.kind = .function) (hy : env.scope.names.lookup y = some .local) (hl : (py.line == pos.line) = true)
    (ha : (scope.names.any fun (n, k) => n == y && (k == .local || k == .cell)) = false) : swapsWith (.DictComp kx vx gs scope pos) (some (.Name y py)) l env = pure true := by
  have ky : env.kindOf y = some .local := hy
  have hb : env.blockKind = .function := by unfold Env.blockKind; rw [hk]; rfl
  unfold swapsWith
  simp only [hb, ky, ha, Expr.pos, hl]
  rfl
theorem ps_setDc2 {i : Nat} {y : Str} {py spos : Pos} {kx vx t0 i0 t1 i1 : Expr} {f0 f1 : List Expr} {scope : Scope} {own : List (Str × Nat)} {vs1 : List Nat} {pos : Pos} {wi wi1 : TI} {g g1 : TG} {tt tt1 : TT} {tk tv : TE} (hc : X.calm = true) (hN : X.N.Nodup) (hy : X.N[i]? = some y) (hyl : X.env.scope.names.lookup y = some .local)
    (hsw : swapsWith (.DictComp kx vx [⟨t0, i0, f0, 0⟩, ⟨t1, i1, f1, 0⟩] scope pos) (some (.Name y py)) spos.line X.env = pure true) (hi : PI X t0 i0 wi) (ok : BlkOk X.N X.env.scope scope own) (hv : ∀ i ∈ vs1, i ∈ own.map (·.2))
    (B : Blk2 X kx vx t0 f0 t1 i1 f1 scope g tt wi1 g1 tt1 tk tv) (hs : ∀ x, foldedSetIterable i0 X.env x = pure x := by intro _; rfl) (hs1 : ∀ env x, foldedSetIterable i1 env x = pure x := by intro _ _; rfl) :
    PS X (.Assign [.Name y py] (.DictComp kx vx [⟨t0, i0, f0, 0⟩, ⟨t1, i1, f1, 0⟩] scope pos) spos) (tAsg (tDc2 wi g tt wi1 g1 tt1 tk tv (own.map (·.2)) vs1) (gName i)) := by
  refine ⟨fun pins s σ H D I h => ?_⟩
  rw [exec_Assign_Name_used _ _ _ _ hsw]
  refine wpAny_bind (wpAny_standAt (wpAny_bind ?_))
  show wpAny _ X.A (do let _ ← comprehension (.DictComp kx vx [⟨t0, i0, f0, 0⟩, ⟨t1, i1, f1, 0⟩] scope pos) scope X.env (firstIterPos [⟨t0, i0, f0, 0⟩, ⟨t1, i1, f1, 0⟩] pos) newDict false (eval i0 X.env) (some (assign (.Name y py) X.env))) _ _ s
  have h : tDc2 wi g tt wi1 g1 tt1 tk tv (own.map (·.2)) vs1 σ H (fun x H1 => gName i x σ H1 D.nx) := h
  refine wpAny_bind (thn (dc2_core (Qf := fun _ s' => SP X pins D .next s') hc hN I hi ok hv B hs hs1 h fun L C s' m H' I' q hn f => ?_) fun _ s' hq => wpAny_pure (wpAny_pure hq))
  show wpAny _ _ (assign (.Name y py) X.env (.ref L)) _ _ _
  refine wpAny_assign_Name (store_ok2 (v := V.ref L) I' hN hy (.inl hyl) rfl (fun s2 I2 ⟨a, sb, ha⟩ => ?_) (.inr hyl))
  obtain ⟨f0, f1, f2, f3, f4, f5⟩ := f
  have haC : C ≠ a := by
    rcases ha with z | z
    · rw [z]; exact f1
    · exact fun e => f4 y a z e.symm
  refine ⟨m, hn.sameBut sb haC, fun h3 sb3 => ?_⟩
  exact ⟨_, H', I2.turned (t' := s2.toks) (fun b o hb e => (sb3.2 b hb).trans e) f0 f1 f3 f4 f5, q⟩
end
end TW
set_option Elab.async false
set_option linter.all false
set_option maxRecDepth 100000
set_option maxHeartbeats 4000000
/-! the data layer: what is known of finished objects (F) beside the heap as it runs (H) -/
namespace TW
open PySem PySem.Spec PyProof.Rows L2
open Evl (Ex)

inductive IsDic : HO → Prop
  | k (kvs : List (Key × V)) : IsDic (.dK kvs)
  | t (kvs : List (List Key × V)) : IsDic (.dT kvs)
/-- nothing, or a tuple -/
inductive IsNT : Option HO → Prop
  | n : IsNT none
  | t (xs : List V) : IsNT (some (.tup xs))
/-- what F knows stands in H; a dict may be locked there -/
def Sees (F H : Hp) : Prop := ∀ a o, F a = some o → H a = some o ∨ ∃ (ob : Obj) (_ : Unit), IsDic o ∧ H a = some (.frz ob o)
/-- H and H' agree but at B -/
def ExB (B : List Addr) (H H' : Hp) : Prop := ∀ a o, a ∉ B → H a = some o → H' a = some o
/-- from (F, H) one came to (F', H'): finished objects stay, new ones are new, only those at B changed -/
structure Gr (B : List Addr) (F H F' H' : Hp) : Prop where
  ff : Ex F F'
  hh : ExB B H H'
  fh : Sees F' H'
  nw : ∀ p o, F' p = some o → F p = some o ∨ IsNT (H p)
  dm : ∀ p, H' p = none → H p = none
  dt : ∀ p, IsNT (H' p) → IsNT (H p)
theorem Sees.dm {F H : Hp} (s : Sees F H) {p : Addr} (h : H p = none) : F p = none := by
  cases e : F p with
  | none => rfl
  | some o =>
    rcases s p o e with z | ⟨_, _, _, z⟩ <;> rw [h] at z <;> cases z
theorem Gr.refl {B : List Addr} {F H : Hp} (s : Sees F H) : Gr B F H F H := ⟨Ex.refl F, fun _ _ _ e => e, s, fun _ _ e => .inl e, fun _ e => e, fun _ e => e⟩
section
variable {B B' : List Addr} {F H F1 H1 F2 H2 : Hp} {p : Addr} {o : HO}
theorem Gr.trans (g : Gr B F H F1 H1) (k : Gr B' F1 H1 F2 H2) (hb : ∀ b ∈ B', b ∈ B ∨ H b = none := by intro b hb; exact absurd hb (by simp)) : Gr B F H F2 H2 where
  ff := g.ff.trans k.ff
  hh := fun a o ha e => k.hh a o (fun hm => (hb a hm).elim ha fun z => by rw [e] at z; cases z) (g.hh a o ha e)
  fh := k.fh
  nw := fun p o e => by
    rcases k.nw p o e with z | z
    · exact g.nw p o z
    · exact .inr (g.dt p z)
  dm := fun p e => g.dm p (k.dm p e)
  dt := fun p e => g.dt p (k.dt p e)
/-- the value is a tuple object of these items -/
def TupR (F : Hp) (v : V) (xs : List V) : Prop := ∃ b, v = .ref b ∧ F b = some (.tup xs)
theorem TupR.ex {F F' : Hp} {v : V} {xs : List V} (h : TupR F v xs) (e : Ex F F') : TupR F' v xs := let ⟨b, h1, h2⟩ := h; ⟨b, h1, e _ _ h2⟩
/-- a new finished object -/
theorem Gr.new (g : Gr B F H F1 H1) (hp : H1 p = none) : Gr B F H (upd F1 p o) (upd H1 p o) := g.trans (B' := []) {
  ff := Ex.new (g.fh.dm hp)
  hh := fun a u _ e => Ex.new hp a u e
  fh := fun a u e => by
    by_cases ha : a = p
    · subst ha; rw [upd_same] at e ⊢; exact .inl e
    · rw [upd_ne ha] at e ⊢; exact g.fh a u e
  nw := fun a u e => by
    by_cases ha : a = p
    · subst ha; exact .inr (by rw [hp]; exact .n)
    · rw [upd_ne ha] at e; exact .inl e
  dm := fun a e => by
    by_cases ha : a = p
    · subst ha; rw [upd_same] at e; cases e
    · rw [upd_ne ha] at e; exact e
  dt := fun a e => by
    by_cases ha : a = p
    · subst ha; rw [hp]; exact .n
    · rw [upd_ne ha] at e; exact e }
/-- an unfinished object is new or changes -/
theorem Gr.mut (g : Gr B F H F1 H1) (hf : F1 p = none) (hb : p ∈ B ∨ H p = none) (ho : ¬ IsNT (some o) ∨ IsNT (H p) := by left; intro z; nomatch z) : Gr B F H F1 (upd H1 p o) where
  ff := g.ff
  hh := fun a u ha e => by
    have : a ≠ p := fun z => by subst z; exact hb.elim ha fun z => by rw [e] at z; cases z
    rw [upd_ne this]; exact g.hh a u ha e
  fh := fun a u e => by
    have : a ≠ p := fun z => by subst z; rw [e] at hf; cases hf
    rw [upd_ne this]; exact g.fh a u e
  nw := g.nw
  dm := fun a e => by
    by_cases ha : a = p
    · subst ha; rw [upd_same] at e; cases e
    · rw [upd_ne ha] at e; exact g.dm a e
  dt := fun a e => by
    by_cases ha : a = p
    · subst ha
      rw [upd_same] at e
      exact ho.elim (fun z => absurd e z) id
    · rw [upd_ne ha] at e; exact g.dt a e
theorem Gr.newM (g : Gr B F H F1 H1) (hp : H1 p = none) : Gr B F H F1 (upd H1 p o) := g.mut (g.fh.dm hp) (.inr (g.dm p hp)) (.inr (by rw [g.dm p hp]; exact .n))
/-- an object of ours is finished -/
theorem Gr.done (g : Gr B F H F1 H1) (hn : H p = none) (hf : F1 p = none) (h1 : H1 p = some o) : Gr B F H (upd F1 p o) H1 where
  ff := g.ff.trans (Ex.new hf)
  hh := g.hh
  fh := fun a u e => by
    by_cases ha : a = p
    · subst ha; rw [upd_same] at e; cases e; exact .inl h1
    · rw [upd_ne ha] at e; exact g.fh a u e
  nw := fun a u e => by
    by_cases ha : a = p
    · subst ha; exact .inr (by rw [hn]; exact .n)
    · rw [upd_ne ha] at e; exact g.nw a u e
  dm := g.dm
  dt := g.dt
/-- a tuple that stood there becomes known -/
theorem Gr.known {xs : List V} (g : Gr B F H F1 H1) (h1 : H1 p = some (.tup xs)) : Gr B F H (upd F1 p (.tup xs)) H1 where
  ff := g.ff.trans fun a u e => by
    by_cases ha : a = p
    · subst ha
      rcases g.fh a u e with z | ⟨_, _, _, z⟩
      · rw [h1] at z; rw [upd_same]; exact z
      · rw [h1] at z; cases z
    · rw [upd_ne ha]; exact e
  hh := g.hh
  fh := fun a u e => by
    by_cases ha : a = p
    · subst ha; rw [upd_same] at e; cases e; exact .inl h1
    · rw [upd_ne ha] at e; exact g.fh a u e
  nw := fun a u e => by
    by_cases ha : a = p
    · subst ha; exact .inr (g.dt a (by rw [h1]; exact .t xs))
    · rw [upd_ne ha] at e; exact g.nw a u e
  dm := g.dm
  dt := g.dt
theorem Gr.mono (g : Gr B F H F1 H1) (hb : ∀ b ∈ B, b ∈ B' ∨ H b = none) : Gr B' F H F1 H1 :=
  ⟨g.ff, fun a o ha e => g.hh a o (fun hm => (hb a hm).elim ha fun z => by rw [e] at z; cases z) e, g.fh, g.nw, g.dm, g.dt⟩
theorem Gr.none' (g : Gr B F H F1 H1) (hf : F p = none) (hp : ¬ IsNT (H p)) : F1 p = none := by
  cases e : F1 p with
  | none => rfl
  | some o =>
    rcases g.nw p o e with z | z
    · rw [hf] at z; cases z
    · exact absurd z hp
theorem Gr.at (g : Gr B F H F1 H1) (e : H p = some o) (hb : p ∉ B := by simp) : H1 p = some o := g.hh p o hb e
end

/-! ### data that stays -/
section
variable {K : PySem.W.Frag} {F H : Hp}
theorem ex_sees (e : Ex F H) : Sees F H := fun a o h => .inl (e a o h)
theorem sees_rdL {a : Addr} {xs : List V} (s : Sees F H) (h : Rd F a (.lst xs)) : Rd H a (.lst xs) := by
  rcases h with h | ⟨o, h⟩
  · rcases s a _ h with z | ⟨_, _, z, _⟩
    · exact .inl z
    · nomatch z
  · rcases s a _ h with z | ⟨_, _, z, _⟩
    · exact .inr ⟨o, z⟩
    · nomatch z
theorem sees_rdT {a : Addr} {xs : List V} (s : Sees F H) (h : Rd F a (.tup xs)) : Rd H a (.tup xs) := by
  rcases h with h | ⟨o, h⟩
  · rcases s a _ h with z | ⟨_, _, z, _⟩
    · exact .inl z
    · nomatch z
  · rcases s a _ h with z | ⟨_, _, z, _⟩
    · exact .inr ⟨o, z⟩
    · nomatch z
theorem sees_l {a : Addr} {xs : List V} (s : Sees F H) (h : SqL K F a xs) : SqL K H a xs := h.imp (sees_rdL s) id
theorem sees_t {a : Addr} {xs : List V} (s : Sees F H) (h : SqT K F a xs) : SqT K H a xs := h.imp (sees_rdT s) id
theorem sees_d {a : Addr} {kvs : List (Key × V)} (s : Sees F H) (h : F a = some (.dK kvs)) : Rd H a (.dK kvs) := by
  rcases s a _ h with z | ⟨ob, _, z, q⟩
  · exact .inl z
  · exact .inr ⟨ob, q⟩
theorem sees_i {a C dx : Addr} {fs : List (Str × V)} (s : Sees F H) (h : F a = some (.ins C dx fs)) : H a = some (.ins C dx fs) := by
  rcases s a _ h with z | ⟨_, _, z, _⟩
  · exact z
  · nomatch z
end
end TW
namespace L2
open PySem PySem.Spec PyProof.Rows TW
open Evl (Ex)
section
variable {K : PySem.W.Frag} {F H : Hp}
mutual
theorem Dp.sees (s : Sees F H) : ∀ {d : PyData} {v : V}, Dp K F v d → Dp K H v d
  | _, _, .non => .non
  | _, _, .bl b => .bl b
  | _, _, .int i => .int i
  | _, _, .str x => .str x
  | _, _, .lst h q => .lst (sees_l s h) (DpAll.sees s q)
  | _, _, .tup h q => .tup (sees_t s h) (DpAll.sees s q)
theorem DpAll.sees (s : Sees F H) : ∀ {ds : List PyData} {vs : List V}, DpAll K F vs ds → DpAll K H vs ds
  | _, _, .nil => .nil
  | _, _, .cons h q => .cons (Dp.sees s h) (DpAll.sees s q)
end
theorem Dp.ex {d : PyData} {v : V} (h : Dp K F v d) (e : Ex F H) : Dp K H v d := Dp.sees (ex_sees e) h
theorem DpAll.ex {ds : List PyData} {vs : List V} (h : DpAll K F vs ds) (e : Ex F H) : DpAll K H vs ds := DpAll.sees (ex_sees e) h
theorem DpAll.length : ∀ {vs : List V} {ds : List PyData}, DpAll K F vs ds → vs.length = ds.length
  | _, _, .nil => rfl
  | _, _, .cons _ q => congrArg (· + 1) (DpAll.length q)
theorem DpAll.get : ∀ {vs : List V} {ds : List PyData} {i : Nat} {v : V}, DpAll K F vs ds → vs[i]? = some v → ∃ d, ds[i]? = some d ∧ Dp K F v d
  | _, _, 0, _, .cons h q, e => by simp at e; subst e; exact ⟨_, rfl, h⟩
  | _, _, i + 1, _, .cons h q, e => by
    obtain ⟨d, h1, h2⟩ := DpAll.get (i := i) q (by simpa using e)
    exact ⟨d, by simpa using h1, h2⟩
theorem DpAll.getD : ∀ {vs : List V} {ds : List PyData} {i : Nat} {d : PyData}, DpAll K F vs ds → ds[i]? = some d → ∃ v, vs[i]? = some v ∧ Dp K F v d
  | _, _, 0, _, .cons h q, e => by simp at e; subst e; exact ⟨_, rfl, h⟩
  | _, _, i + 1, _, .cons h q, e => by
    obtain ⟨d, h1, h2⟩ := DpAll.getD (i := i) q (by simpa using e)
    exact ⟨d, by simpa using h1, h2⟩
theorem DpAll.append : ∀ {vs ws : List V} {ds es : List PyData}, DpAll K F vs ds → DpAll K F ws es → DpAll K F (vs ++ ws) (ds ++ es)
  | _, _, _, _, .nil, q => q
  | _, _, _, _, .cons h t, q => .cons h (DpAll.append t q)
end
end L2
namespace TW
open PySem PySem.Spec PyProof.Rows L2
open Evl (Ex)
section
variable {K : PySem.W.Frag} {F H : Hp}
theorem dp_int {v : V} {i : Int} : Dp K F v (.int i) ↔ v = .int i := ⟨fun h => by cases h; rfl, fun h => by rw [h]; exact .int i⟩
theorem dp_str {v : V} {x : Str} : Dp K F v (.str x) ↔ v = .str x := ⟨fun h => by cases h; rfl, fun h => by rw [h]; exact .str x⟩
theorem dp_bl {v : V} {b : Bool} : Dp K F v (.bool b) ↔ v = .bl b := ⟨fun h => by cases h; rfl, fun h => by rw [h]; exact .bl b⟩
theorem dps_int : ∀ {l : List Int} {vs : List V}, DpAll K F vs (l.map .int) ↔ vs = l.map V.int
  | [], vs => ⟨fun h => by cases h; rfl, fun h => by rw [h]; exact .nil⟩
  | i :: l, vs => ⟨fun h => by
      cases h with
      | cons h q => rw [dp_int.mp h, dps_int.mp q]; rfl, fun h => by rw [h]; exact .cons (.int i) (dps_int.mpr rfl)⟩
theorem dps_str : ∀ {l : List Str} {vs : List V}, DpAll K F vs (l.map .str) ↔ vs = l.map V.str
  | [], vs => ⟨fun h => by cases h; rfl, fun h => by rw [h]; exact .nil⟩
  | i :: l, vs => ⟨fun h => by
      cases h with
      | cons h q => rw [dp_str.mp h, dps_str.mp q]; rfl, fun h => by rw [h]; exact .cons (.str i) (dps_str.mpr rfl)⟩
theorem dps_bl : ∀ {l : List Bool} {vs : List V}, DpAll K F vs (l.map .bool) ↔ vs = l.map V.bl
  | [], vs => ⟨fun h => by cases h; rfl, fun h => by rw [h]; exact .nil⟩
  | i :: l, vs => ⟨fun h => by
      cases h with
      | cons h q => rw [dp_bl.mp h, dps_bl.mp q]; rfl, fun h => by rw [h]; exact .cons (.bl i) (dps_bl.mpr rfl)⟩
theorem dp_list {v : V} {ds : List PyData} (h : Dp K F v (.list ds)) : ∃ a xs, v = .ref a ∧ SqL K F a xs ∧ DpAll K F xs ds := by
  cases h with
  | lst h q => exact ⟨_, _, rfl, h, q⟩
theorem dp_tup {v : V} {ds : List PyData} (h : Dp K F v (.tuple ds)) : ∃ a xs, v = .ref a ∧ SqT K F a xs ∧ DpAll K F xs ds := by
  cases h with
  | tup h q => exact ⟨_, _, rfl, h, q⟩
/-- a list or a tuple -/
def isSeq (d : PyData) (ds : List PyData) : Prop := d = .list ds ∨ d = .tuple ds
theorem dp_seq {v : V} {d : PyData} {ds : List PyData} (h : Dp K F v d) (q : isSeq d ds) : ∃ a xs, v = .ref a ∧ (SqL K F a xs ∨ SqT K F a xs) ∧ DpAll K F xs ds := by
  rcases q with rfl | rfl
  · obtain ⟨a, xs, e, h1, h2⟩ := dp_list h
    exact ⟨a, xs, e, .inl h1, h2⟩
  · obtain ⟨a, xs, e, h1, h2⟩ := dp_tup h
    exact ⟨a, xs, e, .inr h1, h2⟩
/-- a list of ours of such items is data when it is finished -/
theorem dp_newL {F' : Hp} {p : Addr} {ys : List V} {ds : List PyData} (h : DpAll K F ys ds) (e : Ex F F') (hp : F' p = some (.lst ys)) : Dp K F' (.ref p) (.list ds) := .lst (.inl (.inl hp)) (h.ex e)
theorem dp_newT {F' : Hp} {p : Addr} {ys : List V} {ds : List PyData} (h : DpAll K F ys ds) (e : Ex F F') (hp : F' p = some (.tup ys)) : Dp K F' (.ref p) (.tuple ds) := .tup (.inl (.inl hp)) (h.ex e)
end

/-! ### what is walked: a list or a tuple -/
section
variable {X : Cx} {tg : Expr}
theorem PI.or {e : Expr} {wi wi' : TI} (h : PI X tg e wi) (h' : PI X tg e wi') : PI X tg e (fun σ H R => wi σ H R ∨ wi' σ H R) :=
  ⟨fun pins s σ H R I q => q.elim (fun q => h.run pins s σ H R I q) fun q => h'.run pins s σ H R I q⟩
/-- what walks a list or a tuple of the items xs, as long as F is seen -/
structure rSeq (K : PySem.W.Frag) (x : V) (H1 : Hp) (R : It → Hp → Prop) : Prop where
  r : ∃ (a : Addr) (xs : List V), x = .ref a ∧ ((SqL K H1 a xs ∧ R (Itl K a) H1) ∨ (SqT K H1 a xs ∧ R (Itt K a) H1))
def iSeq (K : PySem.W.Frag) (te : TE) : TI := fun σ H R => te σ H fun x H1 => rSeq K x H1 R
theorem pi_seq {e : Expr} {te : TE} (he : PE X e te) : PI X tg e (iSeq X.K te) := by
  refine ⟨fun pins s σ H R I h => thn (he.run pins s σ H _ I h) fun v s1 hv => ?_⟩
  obtain ⟨x, H1, I1, r1, ⟨a, xs, rfl, q⟩⟩ := hv
  cases r1
  have fp : ∀ b ∈ [s1.heap.objs.size], FpOk X pins H1 b := fun b hb => by
    rw [List.mem_singleton.mp hb]
    exact I1.fpOk (Nat.le_refl _) (I1.hok.fresh (Nat.le_refl _))
  have kp : ∀ {o : Obj}, Inv X pins σ H1 { s1 with heap := s1.heap.push o } := fun {o} => I1.kept (t' := s1.toks) fun b u e => Heap.get?_push_of_some _ e
  rcases q with ⟨hq, q⟩ | ⟨hq, q⟩
  · obtain ⟨its, _, pl, _⟩ := I1.list hq
    exact wpAny_pyIter_list pl.isList ⟨_, [s1.heap.objs.size], _, _, H1, rfl, kp, turn_list a _, ⟨_, Heap.get?_push_size _ rfl, rfl, rfl⟩, fp, q⟩
  · obtain ⟨its, _, pl, _⟩ := I1.tuple hq
    exact wpAny_pyIter_tuple (show s1.heap.IsTuple a its.toArray from pl) ⟨_, [s1.heap.objs.size], _, _, H1, rfl, kp, turn_tuple a _, ⟨_, Heap.get?_push_size _ rfl, rfl, rfl⟩, fp, q⟩
end
end TW
set_option Elab.async false
set_option linter.all false
set_option maxRecDepth 100000
set_option maxHeartbeats 4000000
/-! comprehensions whose turns leave all finished objects as they are -/
namespace TW
open PySem PySem.Spec PyProof.Rows L2
open Evl (Ex)

/-- what a comprehension's walk must show (its list at D) -/
abbrev LcW (J : It) (g : TG) (tt : TT) (te : TE) (vs : List Nat) (σ : L2.St) (H1 : Hp) (D : Addr) (Qd : Hp → Prop) : Prop := ∃ W : Nat → Nat → Hp → Prop, (∃ m, W 0 m (upd H1 D (.lst []))) ∧ ∀ i m H, W i m H →
  (J.stop i H ∧ Qd H) ∨ (J.go i H ∧ ∃ Nx : Hp → Prop, (∀ H', Nx H' → ∃ m', m' < m ∧ W (i + 1) m' H') ∧ ∀ x H', J.yld i H x H' → g x (wipe σ vs) H' fun σ2 H2 => wipe σ2 vs = wipe σ vs ∧ tt σ2 H2 fun b H3 =>
    if b = true then te σ2 H3 fun y H4 => ∃ acc, H4 D = some (.lst acc) ∧ acc.length < sizeLine ∧ Nx (upd H4 D (.lst (acc ++ [y]))) else Nx H3)
/-- a turn: the item x stored, tested (b), the element made (R) -/
def TurnP (B : List Addr) (g : TG) (tt : TT) (te : TE) (vs : List Nat) (σ : L2.St) (x : V) (F H : Hp) (b : Bool) (R : V → Hp → Hp → Prop) (R0 : Hp → Hp → Prop := fun _ _ => True) : Prop :=
  ∀ (Yes : V → Hp → Prop) (No : Hp → Prop), (b = false → ∀ F3 H3, Gr B F H F3 H3 → R0 F3 H3 → No H3) → (b = true → ∀ y F3 H3, Gr B F H F3 H3 → R y F3 H3 → Yes y H3) →
    g x (wipe σ vs) H fun σ2 H2 => wipe σ2 vs = wipe σ vs ∧ tt σ2 H2 fun b H3 => if b = true then te σ2 H3 Yes else No H3
section
variable {K : PySem.W.Frag} {J : It} {n : Nat} {G : Hp → Prop} {Y : Nat → Hp → V → Hp → Prop} {g : TG} {tt : TT} {te : TE} {vs : List Nat} {σ : L2.St} {F H1 : Hp} {D : Addr} {Qd : Hp → Prop}
/-- no test -/
theorem yesI {σ : L2.St} {H : Hp} {A B : Hp → Prop} (h : A H) : tYes σ H fun b H3 => if b = true then A H3 else B H3 := by
  show if true = true then A H else B H
  rw [if_pos rfl]
  exact h
/-- a turn with no test, the target a name -/
theorem turn1 {B : List Addr} {i : Nat} {x : V} {F H : Hp} {R : V → Hp → Hp → Prop} {R0 : Hp → Hp → Prop} {te : TE} {vs : List Nat} {σ : L2.St} (hw : wipe ((wipe σ vs).set i (some x)) vs = wipe σ vs)
    (h : ∀ Yes : V → Hp → Prop, (∀ y F3 H3, Gr B F H F3 H3 → R y F3 H3 → Yes y H3) → te ((wipe σ vs).set i (some x)) H Yes) : TurnP B (gName i) tYes te vs σ x F H true R R0 := fun Yes No _ h1 => ⟨hw, show if true = true then _ else No H from (if_pos rfl) ▸ h Yes (h1 rfl)⟩
/-- a comprehension with a state of its own (Pv: turn, what is made, finished objects, heap) -/
theorem lc_st {B : List Addr} (w : Walk J n G Y) (sees : Sees F H1) (hB : ∀ b ∈ B, H1 b ≠ none) (Pv : Nat → List V → Hp → Hp → Prop) (hP : ∀ i acc F' H' D o, Pv i acc F' H' → H1 D = none → Pv i acc F' (upd H' D o))
    (hG : ∀ i acc F' H', i ≤ n → Gr B F H1 F' H' → Pv i acc F' H' → G H') (h0 : Pv 0 [] F H1) (hz : n ≤ 100000)
    (hs : ∀ i acc x F' H' H'', i < n → acc.length ≤ i → Gr B F H1 F' H' → Pv i acc F' H' → Y i H' x H'' → ∃ F'', Gr B F' H' F'' H'' ∧ ∃ b, TurnP B g tt te vs σ x F'' H'' b (fun y F3 H3 => Pv (i + 1) (acc ++ [y]) F3 H3) (fun F3 H3 => Pv (i + 1) acc F3 H3))
    (hD : H1 D = none) (q : ∀ acc F' H', Gr B F H1 F' H' → F' D = none → H' D = some (.lst acc) → Pv n acc F' H' → Qd H') : LcW J g tt te vs σ H1 D Qd := by
  have lz : 100000 < sizeLine := by rw [sizeLine_eq]; decide
  have nB : D ∉ B := fun h => hB D h hD
  refine lc_it w (fun i H' => ∃ acc F', acc.length ≤ i ∧ Gr B F H1 F' H' ∧ F' D = none ∧ H' D = some (.lst acc) ∧ Pv i acc F' H')
    ⟨[], F, Nat.le_refl _, (Gr.refl sees).newM hD, sees.dm hD, upd_same, hP _ _ _ _ _ _ h0 hD⟩ (fun i H' hi ⟨acc, F', _, gr, _, _, p⟩ => hG i acc F' H' hi gr p) (fun i x H' H'' hi ⟨acc, F', hl, gr, fD, hDc, p⟩ hy => ?_) fun H' ⟨acc, F', _, gr, fD, hDc, p⟩ => q acc F' H' gr fD hDc p
  obtain ⟨F'', g1, b, t⟩ := hs i acc x F' H' H'' hi hl gr p hy
  have g1' := gr.trans g1 fun b hb => .inl hb
  have nn : ¬ IsNT (H' D) := by rw [hDc]; exact fun z => nomatch z
  refine t _ _ (fun _ F3 H3 g3 p3 => ⟨acc, F3, by omega, g1'.trans g3 fun b hb => .inl hb, ?_, ?_, p3⟩) fun _ y F3 H3 g3 p3 => ⟨acc, ?_, by omega, acc ++ [y], F3, by simp; omega, (g1'.trans g3 fun b hb => .inl hb).mut ?_ (.inr hD), ?_, upd_same, hP _ _ _ _ _ _ p3 hD⟩
  · exact (g1.trans g3 fun b hb => .inl hb).none' fD nn
  · exact (g1.trans g3 fun b hb => .inl hb).hh D _ nB hDc
  · exact (g1.trans g3 fun b hb => .inl hb).hh D _ nB hDc
  · exact (g1.trans g3 fun b hb => .inl hb).none' fD nn
  · exact (g1.trans g3 fun b hb => .inl hb).none' fD nn
/-- a comprehension that changes nothing: of the items bs those with p, made to f -/
theorem lc_pureG {β : Type} {bs : List β} {p : β → Bool} {f : β → PyData} {Im : β → V → Hp → Prop} (w : Walk J bs.length G Y) (sees : Sees F H1) (hG : ∀ F' H', Gr [] F H1 F' H' → G H') (hz : bs.length ≤ 100000)
    (hY : ∀ i b x F' H' H'', bs[i]? = some b → Gr [] F H1 F' H' → Y i H' x H'' → ∃ F'', Gr [] F' H' F'' H'' ∧ Im b x F'')
    (hs : ∀ b x F' H', b ∈ bs → Gr [] F H1 F' H' → Im b x F' → TurnP [] g tt te vs σ x F' H' (p b) (fun y F3 _ => Dp K F3 y (f b)))
    (hD : H1 D = none) (q : ∀ acc F' H', Gr [] F H1 F' H' → F' D = none → H' D = some (.lst acc) → DpAll K F' acc ((bs.filter p).map f) → Qd H') : LcW J g tt te vs σ H1 D Qd := by
  refine lc_st (B := []) w sees (fun _ h => absurd h (by simp)) (fun i acc F' H' => DpAll K F' acc (((bs.take i).filter p).map f)) (fun _ _ _ _ _ _ h _ => h) (fun i acc F' H' _ gr _ => hG F' H' gr) .nil hz
    (fun i acc x F' H' H'' hi _ gr pv hy => ?_) hD fun acc F' H' gr fD hDc pv => q acc F' H' gr fD hDc (by rw [List.take_length] at pv; exact pv)
  have hb : bs[i]? = some bs[i] := List.getElem?_eq_getElem hi
  obtain ⟨F'', g1, im⟩ := hY i bs[i] x F' H' H'' hb gr hy
  have tk : (bs.take (i + 1)) = bs.take i ++ [bs[i]] := by rw [List.take_add_one, hb]; rfl
  have t := hs bs[i] x F'' H'' (List.getElem_mem hi) (gr.trans g1) im
  refine ⟨F'', g1, p bs[i], fun Yes No h0 h1 => t Yes No (fun hb F3 H3 g3 _ => h0 hb F3 H3 g3 ?_) fun hb y F3 H3 g3 r => h1 hb y F3 H3 g3 ?_⟩
  · rw [tk, List.filter_append]
    simp [hb, pv.ex (g1.ff.trans g3.ff)]
  · rw [tk, List.filter_append, List.map_append]
    simp [hb]
    exact (pv.ex (g1.ff.trans g3.ff)).append (.cons r .nil)
theorem sees_gr {F' H' : Hp} (g : Gr [] F H1 F' H') : Sees F H' := fun a o e => g.fh a o (g.ff a o e)
theorem lc_pure {β : Type} {bs : List β} {p : β → Bool} {f : β → PyData} {Im : β → V → Hp → Prop} (w : Walk J bs.length G Y) (sees : Sees F H1) (hG : ∀ H', Sees F H' → G H') (hz : bs.length ≤ 100000)
    (hY : ∀ i b x F' H' H'', bs[i]? = some b → Gr [] F H1 F' H' → Y i H' x H'' → ∃ F'', Gr [] F' H' F'' H'' ∧ Im b x F'')
    (hs : ∀ b x F' H', b ∈ bs → Gr [] F H1 F' H' → Im b x F' → TurnP [] g tt te vs σ x F' H' (p b) (fun y F3 _ => Dp K F3 y (f b)))
    (hD : H1 D = none) (q : ∀ acc F' H', Gr [] F H1 F' H' → F' D = none → H' D = some (.lst acc) → DpAll K F' acc ((bs.filter p).map f) → Qd H') : LcW J g tt te vs σ H1 D Qd :=
  lc_pureG w sees (fun F' H' gr => hG H' (sees_gr gr)) hz hY hs hD q
/-- .. with no test -/
theorem lc_mapG {β : Type} {bs : List β} {f : β → PyData} {Im : β → V → Hp → Prop} (w : Walk J bs.length G Y) (sees : Sees F H1) (hG : ∀ F' H', Gr [] F H1 F' H' → G H') (hz : bs.length ≤ 100000)
    (hY : ∀ i b x F' H' H'', bs[i]? = some b → Gr [] F H1 F' H' → Y i H' x H'' → ∃ F'', Gr [] F' H' F'' H'' ∧ Im b x F'')
    (hs : ∀ b x F' H', b ∈ bs → Gr [] F H1 F' H' → Im b x F' → TurnP [] g tt te vs σ x F' H' true (fun y F3 _ => Dp K F3 y (f b)))
    (hD : H1 D = none) (q : ∀ acc F' H', Gr [] F H1 F' H' → F' D = none → H' D = some (.lst acc) → DpAll K F' acc (bs.map f) → Qd H') : LcW J g tt te vs σ H1 D Qd :=
  lc_pureG (K := K) (p := fun _ => true) (f := f) w sees hG hz hY hs hD fun acc F' H' g1 fD hDc h => q acc F' H' g1 fD hDc (by rw [List.filter_eq_self.mpr (fun _ _ => rfl)] at h; exact h)
theorem lc_map {β : Type} {bs : List β} {f : β → PyData} {Im : β → V → Hp → Prop} (w : Walk J bs.length G Y) (sees : Sees F H1) (hG : ∀ H', Sees F H' → G H') (hz : bs.length ≤ 100000)
    (hY : ∀ i b x F' H' H'', bs[i]? = some b → Gr [] F H1 F' H' → Y i H' x H'' → ∃ F'', Gr [] F' H' F'' H'' ∧ Im b x F'')
    (hs : ∀ b x F' H', b ∈ bs → Gr [] F H1 F' H' → Im b x F' → TurnP [] g tt te vs σ x F' H' true (fun y F3 _ => Dp K F3 y (f b)))
    (hD : H1 D = none) (q : ∀ acc F' H', Gr [] F H1 F' H' → F' D = none → H' D = some (.lst acc) → DpAll K F' acc (bs.map f) → Qd H') : LcW J g tt te vs σ H1 D Qd :=
  lc_mapG w sees (fun F' H' gr => hG H' (sees_gr gr)) hz hY hs hD q
/-- .. of truth values -/
theorem lc_boolsG (K : PySem.W.Frag) {β : Type} {bs : List β} {f : β → Bool} {Im : β → V → Hp → Prop} (w : Walk J bs.length G Y) (sees : Sees F H1) (hG : ∀ F' H', Gr [] F H1 F' H' → G H') (hz : bs.length ≤ 100000)
    (hY : ∀ i b x F' H' H'', bs[i]? = some b → Gr [] F H1 F' H' → Y i H' x H'' → ∃ F'', Gr [] F' H' F'' H'' ∧ Im b x F'')
    (hs : ∀ b x F' H', b ∈ bs → Gr [] F H1 F' H' → Im b x F' → TurnP [] g tt te vs σ x F' H' true (fun y F3 _ => y = .bl (f b)))
    (hD : H1 D = none) (q : ∀ F' H', Gr [] F H1 F' H' → F' D = none → H' D = some (.lst ((bs.map f).map V.bl)) → Qd H') : LcW J g tt te vs σ H1 D Qd :=
  lc_mapG (K := K) (f := fun b => .bool (f b)) w sees hG hz hY (fun b x F' H' hb g1 im Yes No h0 h1 => hs b x F' H' hb g1 im Yes No h0 fun hb y F3 H3 g3 r => h1 hb y F3 H3 g3 (by rw [r]; exact .bl _)) hD fun acc F' H' g1 fD hDc h => by
    have e : bs.map (fun b => PyData.bool (f b)) = (bs.map f).map PyData.bool := by rw [List.map_map]; rfl
    rw [e, dps_bl] at h
    rw [h] at hDc
    exact q F' H' g1 fD hDc
theorem lc_bools (K : PySem.W.Frag) {β : Type} {bs : List β} {f : β → Bool} {Im : β → V → Hp → Prop} (w : Walk J bs.length G Y) (sees : Sees F H1) (hG : ∀ H', Sees F H' → G H') (hz : bs.length ≤ 100000)
    (hY : ∀ i b x F' H' H'', bs[i]? = some b → Gr [] F H1 F' H' → Y i H' x H'' → ∃ F'', Gr [] F' H' F'' H'' ∧ Im b x F'')
    (hs : ∀ b x F' H', b ∈ bs → Gr [] F H1 F' H' → Im b x F' → TurnP [] g tt te vs σ x F' H' true (fun y F3 _ => y = .bl (f b)))
    (hD : H1 D = none) (q : ∀ F' H', Gr [] F H1 F' H' → F' D = none → H' D = some (.lst ((bs.map f).map V.bl)) → Qd H') : LcW J g tt te vs σ H1 D Qd :=
  lc_boolsG K w sees (fun F' H' gr => hG H' (sees_gr gr)) hz hY hs hD q
end
/-! ### a dict is locked while it is walked -/
section
variable {F H F' H' : Hp} {d : Addr} {od : Obj} {kvs : List (Key × V)}
theorem sees_lockD {u : HO} (hu : IsDic u) (s : Sees F H) (hF : F d = some u) : Sees F (upd H d (.frz od u)) := fun a o e => by
  by_cases h : a = d
  · subst h
    rw [hF] at e
    cases e
    exact .inr ⟨od, (), hu, upd_same⟩
  · rw [upd_ne h]; exact s a o e
theorem sees_lock (s : Sees F H) (hF : F d = some (.dK kvs)) : Sees F (upd H d (.frz od (.dK kvs))) := sees_lockD (.k kvs) s hF
theorem sees_lockT {kvs : List (List Key × V)} (s : Sees F H) (hF : F d = some (.dT kvs)) : Sees F (upd H d (.frz od (.dT kvs))) := sees_lockD (.t kvs) s hF
theorem Gr.unlockD {B : List Addr} {u : HO} (hu : IsDic u) (hF : F d = some u) (h : H d = some u) (g : Gr B F (upd H d (.frz od u)) F' H') : Gr B F H F' (upd H' d u) where
  ff := g.ff
  hh := fun a o ha e => by
    by_cases z : a = d
    · subst z
      rw [h] at e
      rw [upd_same]; exact e
    · rw [upd_ne z]; exact g.hh a o ha (by rw [upd_ne z]; exact e)
  fh := fun a o e => by
    by_cases z : a = d
    · subst z
      have z2 := g.ff _ _ hF
      rw [z2] at e
      exact .inl (by rw [upd_same]; exact e)
    · rw [upd_ne z]; exact g.fh a o e
  nw := fun p o e => by
    rcases g.nw p o e with z | z
    · exact .inl z
    · by_cases y : p = d
      · subst y; rw [upd_same] at z; nomatch z
      · rw [upd_ne y] at z; exact .inr z
  dm := fun p e => by
    by_cases y : p = d
    · subst y; rw [upd_same] at e; cases e
    · rw [upd_ne y] at e
      have z := g.dm p e
      rw [upd_ne y] at z; exact z
  dt := fun p e => by
    by_cases y : p = d
    · subst y
      rw [upd_same] at e
      cases hu <;> nomatch e
    · rw [upd_ne y] at e
      have z := g.dt p e
      rw [upd_ne y] at z; exact z
theorem Gr.unlock (hF : F d = some (.dK kvs)) (h : H d = some (.dK kvs)) (g : Gr [] F (upd H d (.frz od (.dK kvs))) F' H') : Gr [] F H F' (upd H' d (.dK kvs)) := g.unlockD (.k kvs) hF h
theorem Gr.unlockT {kvs : List (List Key × V)} (hF : F d = some (.dT kvs)) (h : H d = some (.dT kvs)) (g : Gr [] F (upd H d (.frz od (.dT kvs))) F' H') : Gr [] F H F' (upd H' d (.dT kvs)) := g.unlockD (.t kvs) hF h
end
/-! ### dict comprehensions -/
section
variable {K : PySem.W.Frag} {J : It} {n : Nat} {G : Hp → Prop} {Y : Nat → Hp → V → Hp → Prop} {g : TG} {tt : TT} {tk tv : TE} {vs : List Nat} {σ : L2.St} {F H1 : Hp} {D : Addr} {Qd : Hp → Prop}
abbrev DcW (J : It) (g : TG) (tt : TT) (tk tv : TE) (vs : List Nat) (σ : L2.St) (H1 : Hp) (D : Addr) (Qd : Hp → Prop) : Prop := ∃ W : Nat → Nat → Hp → Prop, (∃ m, W 0 m (upd H1 D (.dK []))) ∧ ∀ i m H, W i m H →
  (J.stop i H ∧ Qd H) ∨ (J.go i H ∧ ∃ Nx : Hp → Prop, (∀ H', Nx H' → ∃ m', m' < m ∧ W (i + 1) m' H') ∧ ∀ x H', J.yld i H x H' → g x (wipe σ vs) H' fun σ2 H2 => wipe σ2 vs = wipe σ vs ∧ tt σ2 H2 fun b H3 =>
    if b = true then tk σ2 H3 fun y H4 => tv σ2 H4 fun z H5 => ∃ kvs k, y = kV k ∧ H5 D = some (.dK kvs) ∧ kvs.length < sizeLine ∧ Nx (upd H5 D (.dK (putK kvs k z))) else Nx H3)
/-- a turn that stores k: z -/
def TurnD (B : List Addr) (g : TG) (tt : TT) (tk tv : TE) (vs : List Nat) (σ : L2.St) (x : V) (F H : Hp) (R : Key → V → Hp → Hp → Prop) : Prop :=
  ∀ (Yes : V → V → Hp → Prop) (No : Hp → Prop), (∀ k z F3 H3, Gr B F H F3 H3 → R k z F3 H3 → Yes (kV k) z H3) →
    g x (wipe σ vs) H fun σ2 H2 => wipe σ2 vs = wipe σ vs ∧ tt σ2 H2 fun b H3 => if b = true then tk σ2 H3 fun y H4 => tv σ2 H4 fun z H5 => Yes y z H5 else No H3
theorem turnD1 {B : List Addr} {i : Nat} {x : V} {F H : Hp} {R : Key → V → Hp → Hp → Prop} {tk tv : TE} {vs : List Nat} {σ : L2.St} (hw : wipe ((wipe σ vs).set i (some x)) vs = wipe σ vs)
    (h : ∀ Yes : V → V → Hp → Prop, (∀ k z F3 H3, Gr B F H F3 H3 → R k z F3 H3 → Yes (kV k) z H3) → tk ((wipe σ vs).set i (some x)) H fun y H4 => tv ((wipe σ vs).set i (some x)) H4 fun z H5 => Yes y z H5) : TurnD B (gName i) tYes tk tv vs σ x F H R :=
  fun Yes No h1 => ⟨hw, show if true = true then _ else No H from (if_pos rfl) ▸ h Yes h1⟩
theorem dc_st (w : Walk J n G Y) (sees : Sees F H1) (Pv : Nat → List (Key × V) → Hp → Hp → Prop) (hP : ∀ i acc F' H' o, Pv i acc F' H' → H1 D = none → F' D = none → Pv i acc F' (upd H' D o))
    (hG : ∀ i acc F' H', i ≤ n → Gr [] F H1 F' H' → Pv i acc F' H' → G H') (h0 : Pv 0 [] F H1) (hz : n ≤ 100000)
    (hs : ∀ i acc x F' H' H'', i < n → acc.length ≤ i → Gr [] F H1 F' H' → F' D = none → H' D = some (.dK acc) → Pv i acc F' H' → Y i H' x H'' → ∃ F'', Gr [] F' H' F'' H'' ∧ TurnD [] g tt tk tv vs σ x F'' H'' (fun k z F3 H3 => Pv (i + 1) (putK acc k z) F3 H3))
    (hD : H1 D = none)
    (q : ∀ acc F' H', Gr [] F H1 F' H' → F' D = none → H' D = some (.dK acc) → Pv n acc F' H' → Qd H') : DcW J g tt tk tv vs σ H1 D Qd := by
  have lz : 100000 < sizeLine := by rw [sizeLine_eq]; decide
  refine ⟨fun i m H' => m = n - i ∧ i ≤ n ∧ ∃ acc F', acc.length ≤ i ∧ Gr [] F H1 F' H' ∧ F' D = none ∧ H' D = some (.dK acc) ∧ Pv i acc F' H', ⟨n, by simp, Nat.zero_le _, [], F, Nat.le_refl _, (Gr.refl sees).newM hD, sees.dm hD, upd_same, hP _ _ _ _ _ h0 hD (sees.dm hD)⟩, ?_⟩
  rintro i m H' ⟨rfl, hi, acc, F', hl, gr, fD, hDc, p⟩
  have hg := hG i acc F' H' hi gr p
  by_cases lt : i < n
  · refine .inr ⟨w.goes i H' lt hg, fun H' => i + 1 ≤ n ∧ ∃ acc F', acc.length ≤ i + 1 ∧ Gr [] F H1 F' H' ∧ F' D = none ∧ H' D = some (.dK acc) ∧ Pv (i + 1) acc F' H', fun H2 h2 => ⟨n - (i + 1), by omega, rfl, h2.1, h2.2⟩, fun x H'' y => ?_⟩
    obtain ⟨F'', g1, t⟩ := hs i acc x F' H' H'' lt hl gr fD hDc p (w.yields i H' x H'' lt hg y)
    have g1' := gr.trans g1
    have nn : ¬ IsNT (H' D) := by rw [hDc]; exact fun z => nomatch z
    exact t (fun y z H5 => ∃ kvs k, y = kV k ∧ H5 D = some (.dK kvs) ∧ kvs.length < sizeLine ∧ (i + 1 ≤ n ∧ ∃ acc' F3, acc'.length ≤ i + 1 ∧ Gr [] F H1 F3 (upd H5 D (.dK (putK kvs k z))) ∧ F3 D = none ∧ (upd H5 D (.dK (putK kvs k z))) D = some (.dK acc') ∧ Pv (i + 1) acc' F3 (upd H5 D (.dK (putK kvs k z))))) _
      fun k z F3 H3 g3 p3 => ⟨acc, k, rfl, (g1.trans g3).at hDc, by omega, lt, putK acc k z, F3, by have := length_putK acc k z; omega, (g1'.trans g3).mut ((g1.trans g3).none' fD nn) (.inr hD), (g1.trans g3).none' fD nn, upd_same, hP _ _ _ _ _ p3 hD ((g1.trans g3).none' fD nn)⟩
  · have e : i = n := by omega
    subst e
    exact .inl ⟨w.stops H' hg, q acc F' H' gr fD hDc p⟩
end
end TW
set_option Elab.async false
set_option linter.all false
set_option maxRecDepth 100000
set_option maxHeartbeats 4000000
/-! defs whose guards are known (repr asks for them): the names of the hand layer, told anew in TW -/
namespace TW
open PySem PySem.Spec PyProof.Rows L2
/-- room, and nothing is being told by repr -/
structure Room (k : Nat) (A : Around) : Prop extends L2.Room k A where
  gu : A.guards = some []
section
variable {j k : Nat} {A : Around}
theorem Room.mono (r : Room k A) (h : j ≤ k) : Room j A := ⟨r.toRoom.mono h, r.gu⟩
theorem Room.deeper (r : Room (k + 1) A) (env : Env) : Room k (A.deeper env) := ⟨r.toRoom.deeper env, r.gu⟩
theorem Room.make (r : Room (k + 1) A) (C : Addr) (us : List Value) (kw : List (Str × Value)) : Room k (A.under (.builtin "type.__call__" ⟨.ref C :: us, kw⟩)) :=
  ⟨r.toRoom.make C us kw, by show pushGuards (Code.builtin "type.__call__" ⟨.ref C :: us, kw⟩).guards A.guards = some []; rw [r.gu]; first | rfl | simp [pushGuards, Code.guards, Code.isGuard, guardIds]⟩
theorem hu_of (r : Room k A) : A.units + 1 < cLine := L2.hu_of r.toRoom
end
/-- a def keeps a promise (CX: what it may let out) -/
structure FnOk (P : Program) (w : World) (K : PySem.W.Frag) (mg : Str → Option Value) (base : Heap) (CX : CXT) (k : Nat) (f : Addr) (fd : FuncData) (ps : List Str) (sp : Sp) : Prop where
  len : ∀ vs H Q E, sp vs H Q E → vs.length = ps.length
  go : ∀ (A : Around) (outer : List Env) (s : Shared) (H : Hp) (args : Args) (us : List Value) (vs : List V) (Q : VK) (E : XK), Room k A → Env0 P w K mg base A outer s H → BindsTo s fd args (ps.zip us) → Vals vs us → sp vs H Q E → codeAny (model P w) A (.call (.ref f) args) (CR CX outer P w H s Q E) s
section
variable {X : Cx} {CX : CXT} {k : Nat} {f C : Addr} {fd : FuncData} {ps ks : List Str} {sp : Sp} {dvs : List V} {ds : List Value} {E : XK} {x m : Str} {p pos apos : Pos} {e o : Expr} {es : List Expr} {ta : TE} {t tk : TA}
theorem run_any {pins : List (Addr × Obj)} {σ : L2.St} {H : Hp} {s : Shared} {Q : VK} {ar : Args} {us : List Value} {vs : List V} (F : FnOk X.prog X.w X.K X.mg X.base CX k f fd ps sp) (room : Room k X.A) (hx : Passes CX X E) (I : Inv X pins σ H s) (b : BindsTo s fd ar (ps.zip us)) (r : Vals vs us) (h : sp vs H Q E) :
    wpAny (model X.prog X.w) X.A (call (.ref f) ar.pos ar.kw) (EP X pins σ Q) X.xe s := by
  refine wpAny_call (codeAny_mono (F.go X.A X.stack s H ⟨ar.pos, ar.kw⟩ us vs Q E room I.env0 b r h) fun res s' q => ?_)
  match res, q with
  | .error e, q => exact hx pins σ H s e s' I q
  | .ok (.ret u), q => exact I.after q
  | .ok .next, q => exact False.elim q
  | .ok .brk, q => exact False.elim q
  | .ok .cont, q => exact False.elim q
theorem run_fn {pins : List (Addr × Obj)} {σ : L2.St} {H : Hp} {s : Shared} {Q : VK} {us : List Value} {vs : List V} (F : FnOk X.prog X.w X.K X.mg X.base CX k f fd ps sp) (room : Room k X.A) (hb : Binds X.K fd ps ds) (hd : Vals dvs ds) (hx : Passes CX X E)
    (I : Inv X pins σ H s) (r : Vals vs us) (h : sp (vs ++ dvs) H Q E) : wpAny (model X.prog X.w) X.A (call (.ref f) us) (EP X pins σ Q) X.xe s := by
  have rr := r.append hd
  exact run_any (ar := ⟨us, []⟩) F room hx I (hb s us I.kIn (by rw [← rr.length]; exact F.len _ _ _ _ h)) rr h
theorem pe_call (F : FnOk X.prog X.w X.K X.mg X.base CX k f fd ps sp) (room : Room k X.A) (hg : Gl X x) (hm : X.mg x = some (.ref f)) (hk : PySem.W.keepIn X.K (.ref f) = true) (hb : Binds X.K fd ps ds) (hd : Vals dvs ds) (hx : Passes CX X E)
    (ha : PA X (e :: es) t) (hdb : (x == ("__debug__" : Str)) = false := by decide) (he : starEach (e :: es) X.env = (false, eval e X.env) :: starEach es X.env := by rfl) (hpl : (backTo pos (starEach es X.env)).any (·.1) = false := by rfl) :
    PE X (.Call (.Name x p) (e :: es) [] pos) (tCall sp dvs E t) := ⟨fun pins s σ H Q I h => by
  refine wpAny_Call_Name_kw (ld_glob I hg hm (PySem.W.callWith_K (h₀ := X.base) I.ok.mod.kin hk (thn (ha.run pos pins s σ H _ I h) fun us s1 q => ?_) he hpl) hdb)
  obtain ⟨vs, H1, I1, r, q⟩ := q
  exact ⟨I1.kIn, run_fn F room hb hd hx I1 r q⟩⟩
theorem pe_call0 (F : FnOk X.prog X.w X.K X.mg X.base CX k f fd ps sp) (room : Room k X.A) (hg : Gl X x) (hm : X.mg x = some (.ref f)) (hk : PySem.W.keepIn X.K (.ref f) = true) (hb : Binds X.K fd ps ds) (hd : Vals dvs ds) (hx : Passes CX X E)
    (hdb : (x == ("__debug__" : Str)) = false := by decide) : PE X (.Call (.Name x p) [] [] pos) (tCall sp dvs E tNil) :=
  ⟨fun pins s σ H Q I h => wpAny_Call_Name_kw (ld_glob I hg hm (PySem.W.callWith_K0 I.kIn hk (run_fn (us := []) F room hb hd hx I .nil h)) hdb)⟩
theorem pe_meth {pl : Sem Bool} (he : PE X o ta) (c : Cls X.K C) (hm : Meth X.K C m f) (F : FnOk X.prog X.w X.K X.mg X.base CX k f fd ps sp) (room : Room k X.A) (hb : Binds X.K fd ps ds) (hd : Vals dvs ds) (hx : Passes CX X E) (ha : PA X (e :: es) t)
    (hst : starEach (e :: es) X.env = (false, eval e X.env) :: starEach es X.env := by rfl) (hpl : (backTo pos (starEach es X.env)).any (·.1) = false := by rfl)
    (ht : eval (.Call (.Attribute o m apos) (e :: es) [] pos) X.env = (do
      let ov ← eval o X.env
      standAt apos.atName
      let (f, first) ← holding [ov] (getMethod ov m pl)
      callWith pos f first (backTo pos (starEach (e :: es) X.env)) (backToKw pos (keywordEach [] X.env))) := by rfl) :
    PE X (.Call (.Attribute o m apos) (e :: es) [] pos) (tMeth C m sp dvs E ta t) := ⟨fun pins s σ H Q I h => by
  refine PySem.W.methodCall_KW (pl := pl) (thn (he.run pins s σ H _ I h) fun u s1 q => ?_) ht
  obtain ⟨x, H1, I1, rx, a, dx, fs, rfl, ea, l, q⟩ := q
  cases rx
  refine getmeth_ok I1 ea c hm l (PySem.W.callWith_K (first := [.ref a]) (h₀ := X.base) I1.ok.mod.kin hm.kp (thn (ha.run pos pins s1 σ H1 _ I1 q) fun us s2 q => ?_) hst hpl)
  obtain ⟨vs, H2, I2, r, q⟩ := q
  exact ⟨I2.kIn, run_fn (us := .ref a :: us) (vs := .ref a :: vs) F room hb hd hx I2 (.cons rfl r) q⟩⟩
theorem pe_meth0 {pl : Sem Bool} (he : PE X o ta) (c : Cls X.K C) (hm : Meth X.K C m f) (F : FnOk X.prog X.w X.K X.mg X.base CX k f fd ps sp) (room : Room k X.A) (hb : Binds X.K fd ps ds) (hd : Vals dvs ds) (hx : Passes CX X E)
    (ht : eval (.Call (.Attribute o m apos) [] [] pos) X.env = (do
      let ov ← eval o X.env
      standAt apos.atName
      let (f, first) ← holding [ov] (getMethod ov m pl)
      callWith pos f first (backTo pos (starEach [] X.env)) (backToKw pos (keywordEach [] X.env))) := by rfl) :
    PE X (.Call (.Attribute o m apos) [] [] pos) (tMeth C m sp dvs E ta tNil) := ⟨fun pins s σ H Q I h => by
  refine PySem.W.methodCall_KW (pl := pl) (thn (he.run pins s σ H _ I h) fun u s1 q => ?_) ht
  obtain ⟨x, H1, I1, rx, a, dx, fs, rfl, ea, l, q⟩ := q
  cases rx
  exact getmeth_ok I1 ea c hm l (PySem.W.callWith_K0 (first := [.ref a]) I1.kIn hm.kp (run_fn (us := [.ref a]) (vs := [.ref a]) F room hb hd hx I1 (.cons rfl .nil) q))⟩
theorem run_make {pins : List (Addr × Obj)} {σ : L2.St} {H : Hp} {s : Shared} {Q : VK} {us : List Value} {vs : List V} (M : Mk X.K C f) (F : FnOk X.prog X.w X.K X.mg X.base CX k f fd ps sp) (room : Room (k + 1) X.A) (hb : Binds X.K fd ps ds) (hd : Vals dvs ds) (hx : Passes CX X E) (I : Inv X pins σ H s) (r : Vals vs us)
    (h : ∀ x dx, H x = none → H dx = none → dx ≠ x → sp (.ref x :: (vs ++ dvs)) (upd (upd H dx (.own x)) x (.ins C dx [])) (fun v H2 => v = .non ∧ Q (.ref x) H2) E) :
    wpAny (model X.prog X.w) X.A (call (.ref C) us) (EP X pins σ Q) X.xe s := by
  have q0 := h (s.heap.objs.size + 1) s.heap.objs.size (I.hok.fresh (Nat.le_succ _)) (I.hok.fresh (Nat.le_refl _)) (Nat.ne_of_lt (Nat.lt_succ_self _))
  have J := Inv.made (C := C) I
  have rr : Vals (V.ref (s.heap.objs.size + 1) :: (vs ++ dvs)) (Value.ref (s.heap.objs.size + 1) :: (us ++ ds)) := .cons rfl (r.append hd)
  have ll : (Value.ref (s.heap.objs.size + 1) :: us ++ ds).length = ps.length := (rr.length.symm.trans (F.len _ _ _ _ q0))
  refine wpAny_call (make_map (f := f) I.kIn M.makes M.init (beq_iff_eq.mp M.fn) (codeAny_mono (F.go _ X.stack _ _ ⟨Value.ref (s.heap.objs.size + 1) :: us, []⟩ (Value.ref (s.heap.objs.size + 1) :: (us ++ ds)) _ _ E (room.make C us [])
    (J.env0.make C us []) (hb _ (Value.ref (s.heap.objs.size + 1) :: us) J.kIn ll) rr q0) fun res s' q => ?_))
  match res, q with
  | .error e, q => exact hx pins σ _ _ e s' J q
  | .ok (.ret u), q =>
    obtain ⟨v, H', I3, rv, ev, q3⟩ := J.after q
    subst ev
    exact ⟨rv, V.ref (s.heap.objs.size + 1), H', I3, rfl, q3⟩
  | .ok .next, q => exact False.elim q
  | .ok .brk, q => exact False.elim q
  | .ok .cont, q => exact False.elim q
theorem pe_make (M : Mk X.K C f) (F : FnOk X.prog X.w X.K X.mg X.base CX k f fd ps sp) (room : Room (k + 1) X.A) (hg : Gl X x) (hm : X.mg x = some (.ref C)) (hb : Binds X.K fd ps ds) (hd : Vals dvs ds) (hx : Passes CX X E)
    (ha : PA X (e :: es) t) (hdb : (x == ("__debug__" : Str)) = false := by decide) (he : starEach (e :: es) X.env = (false, eval e X.env) :: starEach es X.env := by rfl) (hpl : (backTo pos (starEach es X.env)).any (·.1) = false := by rfl) :
    PE X (.Call (.Name x p) (e :: es) [] pos) (tMake C sp dvs E t) := ⟨fun pins s σ H Q I h => by
  refine wpAny_Call_Name_kw (ld_glob I hg hm (PySem.W.callWith_K (h₀ := X.base) I.ok.mod.kin M.kp (thn (ha.run pos pins s σ H _ I h) fun us s1 q => ?_) he hpl) hdb)
  obtain ⟨vs, H1, I1, r, q⟩ := q
  exact ⟨I1.kIn, run_make M F room hb hd hx I1 r q⟩⟩
theorem run_fnk {g : List Value → List Value → List Value} {gV : List V → List V → List V} {pins : List (Addr × Obj)} {σ : L2.St} {H : Hp} {s : Shared} {Q : VK} {us ws : List Value} {vs zs : List V} (F : FnOk X.prog X.w X.K X.mg X.base CX k f fd ps sp) (room : Room k X.A) (hb : KBinds X.K fd ps ks g gV) (hx : Passes CX X E)
    (I : Inv X pins σ H s) (r : Vals vs us) (rz : Vals zs ws) (h : sp (gV vs zs) H Q E) : wpAny (model X.prog X.w) X.A (call (.ref f) us (ks.zip ws)) (EP X pins σ Q) X.xe s := by
  have rr := hb.rel r rz
  exact run_any (ar := ⟨us, ks.zip ws⟩) F room hx I (hb.to s us ws I.kIn (by rw [← rr.length]; exact F.len _ _ _ _ h)) rr h
end
/-- a def's body keeps its promise -/
theorem fn_of {CX : CXT} {P : Program} {w : World} {K : PySem.W.Frag} {mg : Str → Option Value} {base : Heap} {k : Nat} {f : Addr} {name qual : Str} {params : Arguments} {body : List Stmt} {scope : Scope} {dV kV doc pm cdv ct oc : Value} {an od : Option Addr}
    {osl : Array (Option Value)} {N ps : List Str} {sp : Sp} (lk : K.lookup f = some ⟨oc, od, .func (PySem.W.fnOf name qual params body scope dV kV doc pm an cdv ct), osl⟩) (hcd : PySem.W.codeIn K cdv qual = true) (S : FnScope N ps scope) (len : ∀ vs H Q E, sp vs H Q E → vs.length = ps.length)
    (hbody : ∀ (A : Around) (outer : List Env) (s : Shared) (H : Hp) (vs : List V) (Q : VK) (E : XK), Room k (A.deeper (envOfC qual scope s.heap.objs.size f cdv)) → sp vs H Q E →
      ∃ t, PSs (cxOf CX P w K mg base N qual scope f cdv A outer s H E) body t ∧ t { nx := fun _ H' => Q .non H', rt := Q } (start N vs) H) : FnOk P w K mg base CX (k + 1) f (PySem.W.fnOf name qual params body scope dV kV doc pm an cdv ct) ps sp := by
  refine ⟨len, fun A outer s H args us vs Q E room e0 hb r q => ?_⟩
  have inK : K.In s.heap := e0.mod.kin.keeps fun b o h => (e0.bs b o h).1
  have nolim : s.heap.NoLimit := e0.mod.nolimit.keeps fun b o h => (e0.bs b o h).1
  have kinds : ∀ y ∈ ps.zip us, scope.names.lookup y.1 = some .local ∨ (scope.names.lookup y.1 = some .cell ∧ ((cellsFrom (s.heap.objs.size + 1) scope.names []).lookup y.1).isSome = true) := fun y hy =>
    (S.par y.1 (List.of_mem_zip hy).1).imp id fun z => ⟨z, PySem.W.cellsFrom_some _ _ _ (.inl z)⟩
  refine codeAny_call_function room.toRoom.depth (inK _ _ lk) rfl S.co S.gen rfl (PySem.W.codeRec_of inK hcd) (hb _ _ _ _ (wpAny_newFunctionEnv_cells S.kind kinds fun env he s1 x => ?_))
  subst he
  obtain ⟨t, ht, q1⟩ := hbody A outer s H vs Q E (room.deeper _) q
  have I : Inv (cxOf CX P w K mg base N qual scope f cdv A outer s H E) [] (start N vs) H s1 := inv_start S room.hd e0 (len _ _ _ _ q) r x
  refine ⟨nolim.keeps x.toInCall.keep, codeAny_func (wpAny_mono (ht.run [] s1 (start N vs) H _ I q1) (fun fl s' h => ?_) fun e s' h => h)⟩
  match fl, h with
  | .ret u, h =>
    obtain ⟨v, σ', H', J, rv, q2⟩ := h
    exact ⟨v, H', J.os, J.bare, J.base, J.hok, rv, q2⟩
  | .next, h =>
    obtain ⟨σ', H', J, q2⟩ := h
    exact ⟨V.non, H', J.os, J.bare, J.base, J.hok, rfl, q2⟩
  | .brk, h =>
    obtain ⟨_, _, _, q2⟩ := h
    exact False.elim q2
  | .cont, h =>
    obtain ⟨_, _, _, q2⟩ := h
    exact False.elim q2
/-- a def of the text, behind the top -/
abbrev Fun (K : PySem.W.Frag) (x qual : Str) (st : Stmt) (f : Addr) (fd : FuncData) : Prop := L2.Fun K x qual st f fd
section
variable {P : Program} {w : World} {K : PySem.W.Frag} {mg : Str → Option Value} {base : Heap} {x qual : Str} {st : Stmt} {f : Addr} {fd : FuncData} {N ps : List Str} {k : Nat} {sp : Sp}
/-- THE RULE for a def: its body as a term of rules, and the reading of that term -/
theorem Fun.ok (F : Fun K x qual st f fd) (S : FnScope N ps (defScope st)) (len : ∀ vs H Q E, sp vs H Q E → vs.length = ps.length)
    (hbody : ∀ (cdv : Value) (A : Around) (outer : List Env) (s : Shared) (H : Hp) (vs : List V) (Q : VK) (E : XK), Room k (A.deeper (envOfC qual (defScope st) s.heap.objs.size f cdv)) → sp vs H Q E →
      ∃ t, PSs (cxOf CX0 P w K mg base N qual (defScope st) f cdv A outer s H E).nox (defBody st) t ∧ t { nx := fun _ H' => Q .non H', rt := Q } (start N vs) H) : FnOk P w K mg base CX0 (k + 1) f fd ps sp := by
  obtain ⟨oc, od, kV, doc, pm, an, cdv, ct, osl, rfl, lk, hcd⟩ := L2.Fun.ex F
  exact fn_of lk hcd S len fun A outer s H vs Q E room q => by
    obtain ⟨t, h1, h2⟩ := hbody cdv A outer s H vs Q E room q
    exact ⟨t, h1.nox, h2⟩
/-- .. for a def with defaults -/
theorem okD {dvs : List V} (F : FunD K x qual (defArgs st) (defBody st) (defScope st) dvs [] f fd) (S : FnScope N ps (defScope st)) (len : ∀ vs H Q E, sp vs H Q E → vs.length = ps.length)
    (hbody : ∀ (cdv : Value) (A : Around) (outer : List Env) (s : Shared) (H : Hp) (vs : List V) (Q : VK) (E : XK), Room k (A.deeper (envOfC qual (defScope st) s.heap.objs.size f cdv)) → sp vs H Q E →
      ∃ t, PSs (cxOf CX0 P w K mg base N qual (defScope st) f cdv A outer s H E).nox (defBody st) t ∧ t { nx := fun _ H' => Q .non H', rt := Q } (start N vs) H) : FnOk P w K mg base CX0 (k + 1) f fd ps sp := by
  obtain ⟨oc, od, dV, kV, doc, pm, an, cdv, ct, osl, rfl, lk, hcd, _, _⟩ := F.ex
  exact fn_of lk hcd S len fun A outer s H vs Q E room q => by
    obtain ⟨t, h1, h2⟩ := hbody cdv A outer s H vs Q E room q
    exact ⟨t, h1.nox, h2⟩
end
end TW
set_option Elab.async false
set_option linter.all false
set_option maxRecDepth 100000
set_option maxHeartbeats 4000000
/-! repr of told data -/
namespace TW
open PySem PySem.Spec PyProof.Rows L2
/-- a list with items, or a tuple -/
def reprOk : PyData → Bool
  | .list (_ :: _) => true
  | .tuple _ => true
  | _ => false
theorem call_repr_reads {prog : Program} {w : World} {A : Around} {E : Value → Shared → Prop} {s : Shared} {Q : Value → Shared → Prop} : ∀ {v : Value} {d : PyData} {as : List Addr}, Reads s.heap v d as → reprOk d = true → d.showable = true → d.hasDict = false → d.shown.length ≤ sizeLine → A.guards = some [] → A.units + d.depth + 2 < cLine →
    (∀ h' u tk, (∀ b o, s.heap.get? b = some o → h'.get? b = some o) → Q (.str d.shown u) { s with heap := h', toks := tk }) → wpAny (model prog w) A (call (.builtin "repr") [v]) Q E s
  | _, _, _, .list (a := a) (vs := vs) (xs := xs) h1 h2 h3 h4, ok, hs, nd, hz, hg, hu, q => by
    have hz' : (listText (PyData.shownAll xs)).length ≤ sizeLine := by simpa only [PyData.shown] using hz
    obtain ⟨bs, hb, hk⟩ := ReprAllK.of_readsAll (prog := prog) (w := w) h4 (by simpa [PyData.showable] using hs) (fun hx => by rw [show PyData.hasDictAll xs = false by simpa [PyData.hasDict] using nd] at hx; cases hx) (fun t ht => Nat.le_trans (listText_mem_le ht) hz')
    have r : Reads s.heap (.ref a) (.list xs) _ := .list h1 h2 h3 h4
    have hna : a ∉ bs := not_mem_of_deeper r (by simp only [PyData.depth]; omega) hb
    simp only [PyData.depth] at hu
    simp only [PyData.shown] at q
    obtain ⟨l⟩ := vs
    cases l with
    | nil =>
      have h4' : ReadsAll s.heap [] xs _ := h4
      cases h4'
      cases ok
    | cons x l =>
      exact call_repr_slot (by omega) ⟨_, h1, h2⟩ F.slot_list_repr.toG (call_list_reprK h1 h2 h3 hna (by simpa using hk.length_eq) (fun i y e => hk.item i y (by simpa using e)) hg (fun b _ => Clear.nil b) (by show A.units + 1 + _ < _; omega) (fun _ _ e => e) (fun h' u tk hk' => ⟨_, _, rfl, q h' u tk hk'⟩) hz')
  | _, _, _, .tuple (a := a) (xs := xs) h1 h2 h3 h4, ok, hs, nd, hz, hg, hu, q => by
    have hz' : (tupleText (PyData.shownAll xs)).length ≤ sizeLine := by simpa only [PyData.shown] using hz
    obtain ⟨bs, hb, hk⟩ := ReprAllK.of_readsAll (prog := prog) (w := w) h4 (by simpa [PyData.showable] using hs) (fun hx => by rw [show PyData.hasDictAll xs = false by simpa [PyData.hasDict] using nd] at hx; cases hx) (fun t ht => Nat.le_trans (tupleText_mem_le ht) hz')
    have r : Reads s.heap (.ref a) (.tuple xs) _ := .tuple h1 h2 h3 h4
    have hna : a ∉ bs := not_mem_of_deeper r (by simp only [PyData.depth]; omega) hb
    simp only [PyData.depth] at hu
    simp only [PyData.shown] at q
    exact call_repr_slot (by omega) ⟨_, h1, h2⟩ F.slot_tuple_repr (call_tuple_reprK h1 h2 h3 hna hk hg (fun b _ => Clear.nil b) (by show A.units + 1 + _ < _; omega) (fun _ _ e => e) (fun h' u tk hk' => ⟨_, _, rfl, q h' u tk hk'⟩) hz')
  | _, _, _, .none, ok, _, _, _, _, _, _ => by cases ok
  | _, _, _, .bool _, ok, _, _, _, _, _, _ => by cases ok
  | _, _, _, .int _ _, ok, _, _, _, _, _, _ => by cases ok
  | _, _, _, .str _ _, ok, _, _, _, _, _, _ => by cases ok
  | _, _, _, .dict _ _ _ _ _, ok, _, _, _, _, _, _ => by cases ok
structure rReprD (K : PySem.W.Frag) (xs : List V) (H : Hp) (Q : VK) : Prop where
  r : ∃ (x : V) (d : PyData), xs = [x] ∧ Dp K H x d ∧ reprOk d = true ∧ d.showable = true ∧ d.hasDict = false ∧ d.depth ≤ 50 ∧ d.shown.length ≤ sizeLine ∧ Q (.str d.shown) H
theorem cr_repr {X : Cx} (K : PySem.W.Frag) (hg : X.A.guards = some []) (hu : X.A.units + 64 < cLine) (hK : X.K = K := by rfl) : CallR X (.builtin "repr") (rReprD K) := by
  subst hK
  intro pins s σ H xs us Q I r h
  obtain ⟨x, d, rfl, hd, ok, sh, nd, dp, hz, q⟩ := h.r
  obtain ⟨u, rfl, ru⟩ := vals1 r
  obtain ⟨as, rd⟩ := Dp.reads I d x u hd ru
  exact call_repr_reads rd ok sh nd hz hg (by omega) fun h' t tk k => ⟨.str d.shown, H, I.kept k, ⟨t, rfl⟩, q⟩
theorem bt_repr : bootBuiltins "repr" = some (.builtin "repr") := by decide +kernel
end TW
set_option Elab.async false
set_option linter.all false
set_option maxRecDepth 100000
set_option maxHeartbeats 4000000
/-! the rules in the words of the generator -/
namespace TW
open PySem PySem.Spec PyProof.Rows L2 RZ StX
open Evl (Ex)

theorem hu16_of {A : Around} {k : Nat} (hr : Room k A) : A.units + 16 < cLine := by have := hr.units; omega
theorem hu8_of {A : Around} {k : Nat} (hr : Room k A) : A.units + 8 < cLine := by have := hr.units; omega
/-! questions that are asked by their name -/
structure rIxD (K : PySem.W.Frag) (x y : V) (H : Hp) (Q : VK) : Prop where
  r : rIxL K x y H Q ∨ rIxT K x y H Q
structure rSlD (K : PySem.W.Frag) (x : V) (lo hi : Option Int) (H : Hp) (Q : VK) : Prop where
  r : rSlL K x lo hi H Q ∨ rSlA K x lo hi H Q
structure rLenD (K : PySem.W.Frag) (xs : List V) (H : Hp) (Q : VK) : Prop where
  r : ∃ p ys, xs = [.ref p] ∧ (SqL K H p ys ∨ SqT K H p ys) ∧ Q (.int ys.length) H
structure rTupD (K : PySem.W.Frag) (xs : List V) (H : Hp) (Q : VK) : Prop where
  r : ∃ p ys, xs = [.ref p] ∧ ((SqL K H p ys ∧ ∀ l, H l = none → Q (.ref l) (upd H l (.tup ys))) ∨ (SqT K H p ys ∧ Q (.ref p) H))
structure rLisD (K : PySem.W.Frag) (xs : List V) (H : Hp) (Q : VK) : Prop where
  r : ∃ p ys, xs = [.ref p] ∧ (SqL K H p ys ∨ SqT K H p ys) ∧ ∀ l, H l = none → Q (.ref l) (upd H l (.lst ys))
structure rIsiD (K : PySem.W.Frag) (xs : List V) (H : Hp) (Q : VK) : Prop where
  r : rIsi K xs H Q
structure rIsiTD (K : PySem.W.Frag) (xs : List V) (H : Hp) (Q : VK) : Prop where
  r : rIsiT K xs H Q
structure rAllD (K : PySem.W.Frag) (xs : List V) (H : Hp) (Q : VK) : Prop where
  r : rAll K xs H Q
structure rAnyD (K : PySem.W.Frag) (xs : List V) (H : Hp) (Q : VK) : Prop where
  r : rAny K xs H Q
structure rEqDD (K : PySem.W.Frag) (x y : V) (H : Hp) (Q : VK) : Prop where
  r : rEqD K x y H Q
structure rInD (K : PySem.W.Frag) (neg : Bool) (x y : V) (H : Hp) (Q : VK) : Prop where
  r : rIn K neg x y H Q
structure rLenS (xs : List V) (H : Hp) (Q : VK) : Prop where
  r : ∃ x : Str, xs = [.str x] ∧ x.length ≤ sizeLine ∧ Q (.int x.length) H
structure rInS (x y : V) (H : Hp) (Q : VK) : Prop where
  r : ∃ i j, x = .str i ∧ y = .str j ∧ Q (.bl (!(Builtin.Str.occurrences j i 0 j.length 1).isEmpty)) H
structure rNeDD (K : PySem.W.Frag) (x y : V) (H : Hp) (Q : VK) : Prop where
  r : rNeD K x y H Q
theorem bt_isinstance : bootBuiltins "isinstance" = some (.builtin "isinstance") := by decide +kernel
theorem bt_len : bootBuiltins "len" = some (.builtin "len") := by decide +kernel
theorem bt_all : bootBuiltins "all" = some (.builtin "all") := by decide +kernel
theorem bt_any : bootBuiltins "any" = some (.builtin "any") := by decide +kernel
theorem bt_sorted : bootBuiltins "sorted" = some (.builtin "sorted") := by decide +kernel
theorem bt_abs : bootBuiltins "abs" = some (.builtin "abs") := by decide +kernel
theorem bt_int : bootBuiltins "int" = some (.type "int") := by decide +kernel
theorem bt_str : bootBuiltins "str" = some (.type "str") := by decide +kernel
theorem bt_bool : bootBuiltins "bool" = some (.type "bool") := by decide +kernel
theorem bt_list : bootBuiltins "list" = some (.type "list") := by decide +kernel
theorem bt_tuple : bootBuiltins "tuple" = some (.type "tuple") := by decide +kernel
theorem bt_dict : bootBuiltins "dict" = some (.type "dict") := by decide +kernel
theorem bt_set : bootBuiltins "set" = some (.type "set") := by decide +kernel
theorem bt_range : bootBuiltins "range" = some (.type "range") := by decide +kernel
theorem bt_zip : bootBuiltins "zip" = some (.type "zip") := by decide +kernel
theorem bt_enumerate : bootBuiltins "enumerate" = some (.type "enumerate") := by decide +kernel
section
variable {X : Cx}
theorem zg {i : Nat} {x : Str} {pos : Pos} (hN : X.N.Nodup) (hi : X.N[i]? = some x := by rfl) (hx : Loc X.env.scope x := by first | exact Or.inl rfl | exact Or.inr rfl) (hf : X.fn x = true ∨ X.env.scope.names.lookup x = some .local := by first | exact Or.inl rfl | exact Or.inr rfl) : PG X (.Name x pos) (gName i) := pg_name hN hi hx hf
theorem zs {i : Nat} {x : Str} {e : Expr} {te : TE} {pos pos' : Pos} (hN : X.N.Nodup) (he : PE X e te) (hi : X.N[i]? = some x := by rfl) (hx : Loc X.env.scope x := by first | exact Or.inl rfl | exact Or.inr rfl) (hs : swapsWith e (some (.Name x pos')) pos.line X.env = pure false := by rfl)
    (hf : X.fn x = true ∨ X.env.scope.names.lookup x = some .local := by first | exact Or.inl rfl | exact Or.inr rfl) : PS X (.Assign [.Name x pos'] e pos) (tAsg te (gName i)) := ps_set hN hi hx he hs hf
theorem zpar {i j : Nat} {x y : Str} {a b : Expr} {ta : TA} {px py pt pos : Pos} {kt k2 pt2} (hN : X.N.Nodup) (ha : PA X [a, b] ta) (hc : X.calm = true := by rfl) (hi : X.N[i]? = some x := by rfl) (hj : X.N[j]? = some y := by rfl) (hij : i ≠ j := by decide)
    (hx : X.env.scope.names.lookup x = some .local := by rfl) (hy : X.env.scope.names.lookup y = some .local := by rfl)
    (hw : swappedStores [.Tuple [.Name x px, .Name y py] kt pt] (.Tuple [a, b] k2 pt2) X.env = pure (some [x, y]) := by rfl)
    (hs : swapsWithSole [.Tuple [.Name x px, .Name y py] kt pt] (.Tuple [a, b] k2 pt2) pos.line X.env = pure false := by rfl) :
    PS X (.Assign [.Tuple [.Name x px, .Name y py] kt pt] (.Tuple [a, b] k2 pt2) pos) (tPar i j ta) := ps_par hc hN hi hj hij hx hy ha hw hs
theorem zpar3 {i j l : Nat} {x y z : Str} {a b c : Expr} {ta : TA} {px py pz pt pos : Pos} {kt k2 pt2} (hN : X.N.Nodup) (ha : PA X [a, b, c] ta) (hc : X.calm = true := by rfl) (hi : X.N[i]? = some x := by rfl) (hj : X.N[j]? = some y := by rfl) (hl : X.N[l]? = some z := by rfl)
    (hij : i ≠ j := by decide) (hil : i ≠ l := by decide) (hjl : j ≠ l := by decide) (hx : X.env.scope.names.lookup x = some .local := by rfl) (hy : X.env.scope.names.lookup y = some .local := by rfl) (hz : X.env.scope.names.lookup z = some .local := by rfl)
    (hw : swappedStores [.Tuple [.Name x px, .Name y py, .Name z pz] kt pt] (.Tuple [a, b, c] k2 pt2) X.env = pure (some [x, y, z]) := by rfl)
    (hs : swapsWithSole [.Tuple [.Name x px, .Name y py, .Name z pz] kt pt] (.Tuple [a, b, c] k2 pt2) pos.line X.env = pure false := by rfl) :
    PS X (.Assign [.Tuple [.Name x px, .Name y py, .Name z pz] kt pt] (.Tuple [a, b, c] k2 pt2) pos) (tPar3 i j l ta) := ps_par3 hc hN hi hj hl hij hil hjl hx hy hz ha hw hs
theorem zty {x : Str} {n : String} {pos : Pos} (hm : X.mg x = none) (hv : bootBuiltins x = some (.type n)) (hg : Gl X x := by rfl) (hn : x ≠ "__name__" := by decide) (hd : (x == ("__debug__" : Str)) = false := by decide) : PE X (.Name x pos) (tC (.ty n)) := pe_bltn hg hm hv rfl hn hd
theorem zown {x : Str} {C : Addr} {pos : Pos} (hm : X.mg x = some (.ref C)) (hg : Gl X x := by rfl) (hd : (x == ("__debug__" : Str)) = false := by decide) : PE X (.Name x pos) (tC (.ref C)) := pe_glob hg hm rfl hd
/-- a list's or a tuple's item -/
theorem ix_LT (K : PySem.W.Frag) (hK : X.K = K := by rfl) : IxR X (rIxD K) := by
  subst hK; exact fun a b pins s σ H x y v u Q I rx ry h hs => (ix_list.or ix_tup) a b pins s σ H x y v u Q I rx ry h.r hs
theorem sl_LA (K : PySem.W.Frag) (hK : X.K = K := by rfl) : SlR X (rSlD K) := by
  subst hK; exact fun pins s σ H x v vl vu lo hi sl Q I rx hs pl pu h => (sl_list.or sl_tupA) pins s σ H x v vl vu lo hi sl Q I rx hs pl pu h.r
theorem cr_len (K : PySem.W.Frag) (hK : X.K = K := by rfl) : CallR X (.builtin "len") (rLenD K) := by subst hK; exact fun pins s σ H vs us Q I r h => call_len_seq pins s σ H vs us Q I r h.r
theorem cr_tuple (K : PySem.W.Frag) (hK : X.K = K := by rfl) : CallR X (.type "tuple") (rTupD K) := by subst hK; exact fun pins s σ H vs us Q I r h => call_tuple_of pins s σ H vs us Q I r h.r
theorem cr_list (K : PySem.W.Frag) (hK : X.K = K := by rfl) : CallR X (.type "list") (rLisD K) := by subst hK; exact fun pins s σ H vs us Q I r h => call_list_of pins s σ H vs us Q I r h.r
theorem cr_isi (K : PySem.W.Frag) (hK : X.K = K := by rfl) : CallR X (.builtin "isinstance") (rIsiD K) := by subst hK; exact fun pins s σ H vs us Q I r h => call_isi pins s σ H vs us Q I r h.r
theorem cr_isiT' (K : PySem.W.Frag) (hK : X.K = K := by rfl) : CallR X (.builtin "isinstance") (rIsiTD K) := by subst hK; exact fun pins s σ H vs us Q I r h => call_isiT pins s σ H vs us Q I r h.r
theorem cr_allD (K : PySem.W.Frag) (hc : X.calm = true := by rfl) (hK : X.K = K := by rfl) : CallR X (.builtin "all") (rAllD K) := by subst hK; exact fun pins s σ H vs us Q I r h => cr_all hc pins s σ H vs us Q I r h.r
theorem cr_anyD (K : PySem.W.Frag) (hc : X.calm = true := by rfl) (hK : X.K = K := by rfl) : CallR X (.builtin "any") (rAnyD K) := by subst hK; exact fun pins s σ H vs us Q I r h => cr_any hc pins s σ H vs us Q I r h.r
theorem op_eqDD (K : PySem.W.Frag) (hu : X.A.units + 64 < cLine) (hK : X.K = K := by rfl) : OpR X (compareOp .Eq) (rEqDD K) := by subst hK; exact fun pins s σ H x y v u Q I rx ry h => op_eqD hu pins s σ H x y v u Q I rx ry h.r
theorem op_neDD (K : PySem.W.Frag) (hu : X.A.units + 64 < cLine) (hK : X.K = K := by rfl) : OpR X (compareOp .NotEq) (rNeDD K) := by subst hK; exact fun pins s σ H x y v u Q I rx ry h => op_neD hu pins s σ H x y v u Q I rx ry h.r
theorem op_inK (K : PySem.W.Frag) (hK : X.K = K := by rfl) : OpR X (compareOp .In) (rInD K false) := by subst hK; exact fun pins s σ H x y v u Q I rx ry h => op_in_seq pins s σ H x y v u Q I rx ry h.r
theorem op_niK (K : PySem.W.Frag) (hK : X.K = K := by rfl) : OpR X (compareOp .NotIn) (rInD K true) := by subst hK; exact fun pins s σ H x y v u Q I rx ry h => op_notIn_seq pins s σ H x y v u Q I rx ry h.r
theorem cr_lenS : CallR X (.builtin "len") rLenS := fun pins s σ H vs us Q I r ⟨⟨x, e, h, q⟩⟩ => call_len pins s σ H vs us Q I r ⟨.str x, x.length, e, ⟨h, rfl⟩, q⟩
theorem op_inS : OpR X (compareOp .In) rInS := fun pins s σ H x y v u Q I rx ry h => op_in_str pins s σ H x y v u Q I rx ry h.r
theorem zpg {es : List Expr} {k : Nat} {t : TGs} {n : Nat} {pos : Pos} (K : PySem.W.Frag) (h : PGs X es t) (hc : X.calm = true := by rfl) (hK : X.K = K := by rfl) (hn : (assignEach es X.env).length = n := by rfl) (hst : (assignEach es X.env).findIdx? (·.1) = none := by rfl) : PG X (.Tuple es k pos) (gTup K n t) := by
  subst hK; exact pg_tup hc h hn hst
theorem zfld {e : Expr} {ta : TE} {f : Str} {pos : Pos} (K : PySem.W.Frag) (he : PE X e ta) (hK : X.K = K := by rfl) (hb : attributeBase e f X.env (eval e X.env) = eval e X.env := by rfl) : PE X (.Attribute e f pos) (tFld K ta f) := by subst hK; exact pe_fld he hb
theorem zseq {tg e : Expr} {te : TE} (K : PySem.W.Frag) (he : PE X e te) (hK : X.K = K := by rfl) : PI X tg e (iSeq K te) := by subst hK; exact pi_seq he
theorem ztruth {a : Expr} {ta : TE} (K : PySem.W.Frag) (ha : PE X a ta) (hK : X.K = K := by rfl) (he : ∀ whole, isTrue a X.env whole = (do let v ← whole; standAt a.pos; holding [v] (truthy v)) := by intro _; rfl) : PT X a (fun σ H Q => ta σ H fun x H' => ∃ k, TruV K x H' k ∧ Q k H') := by
  subst hK; exact pt_truth ha he
theorem zstar {e : Expr} {es : List Expr} {te : TE} {t : TA} {p : Pos} (K : PySem.W.Frag) (he : PE X e te) (hr : PA X es t) (hK : X.K = K := by rfl) (hs : starEach (.Starred e p :: es) X.env = (true, eval e X.env) :: starEach es X.env := by rfl) : PA X (.Starred e p :: es) (tStar K te t) := by
  subst hK; exact pa_star he hr hs
theorem m2_of {o e f : Expr} {m : Str} {apos cpos : Pos} (base : attributeBase o m X.env (eval o X.env) = eval o X.env := by rfl)
    (few : ((backTo cpos (starEach [e, f] X.env)).all (fun x => !x.1) && (backToKw cpos (keywordEach [] X.env)).all (fun x => x.1.isSome) && decide (([e, f] : List Expr).length + ([] : List Keyword).length + (if ([] : List Keyword).isEmpty then 0 else 1) < 30)) = true := by rfl)
    (line : (apos.endLine == cpos.line) = true := by rfl) (trees : backTo cpos (starEach [e, f] X.env) = [(false, eval e X.env), (false, eval f X.env)] := by rfl) : M2 X o m apos e f cpos := ⟨base, few, line, trees⟩
end

section
open PySem.W
/-- sorted(xs), xs a list of data that can be ordered -/
def rSortedD (K : PySem.W.Frag) : List V → Hp → VK → Prop := fun vs H Q => ∃ (β : Type) (enc : β → PyData) (bs : List β) (a : Addr) (xs : List V) (F : Hp), vs = [.ref a] ∧ Sees F H ∧ SqL K H a xs ∧ DpAll K F xs (bs.map enc) ∧ AllAlike (bs.map enc) ∧ Sortable (bs.map enc) ∧
  (∀ b ∈ bs, (enc b).depth ≤ 8) ∧ ∀ (ys : List V) p, DpAll K F ys ((bs.mergeSort (dataLe false enc)).map enc) → H p = none → Q (.ref p) (upd H p (.lst ys))
variable {X : Cx}
theorem cr_sortedD (K : PySem.W.Frag) (hu : X.A.units + 16 < cLine) (hK : X.K = K := by rfl) : CallR X (.builtin "sorted") (rSortedD K) := by
  subst hK
  intro pins s σ H vs us Q I r h
  obtain ⟨β, enc, bs, a, xs, F, rfl, hse, hs, hd, hal, hso, hdep, q⟩ := h
  rw [Vals.ref1 r]
  obtain ⟨its, rv, pl, hz⟩ := I.list hs
  have e1 : EachIs (fun u b => ∃ v, L2.RelV v u ∧ Dp X.K F v (enc b)) its bs := each_dp hd rv
  have e2 : EachIs (fun v b => ∃ as, Reads s.heap v (enc b) as) its bs := e1.mono fun u b ⟨v, r, d⟩ => Dp.reads I (enc b) v u (Dp.sees hse d) r
  refine sorted_data pl.isList e1 e2 hal hso (by rw [← e1.length, ← rv.length]; exact hz) (fun b hb => by have := hdep b hb; omega) fun out ho he => ?_
  obtain ⟨ys, hv, hy⟩ := dpAll_map he
  obtain ⟨ep, he'⟩ := PyProof.Rows.sortedAll_at s.heap its out.toArray
  have hlen : ys.length ≤ sizeLine := by rw [hv.length, ho, ← e1.length, ← rv.length]; exact hz
  exact ⟨.ref _, upd H (s.heap.objs.size + 1) (.lst ys), I.laid (t' := s.toks) (fun _ _ => PyProof.Rows.sortedAll_old) (Nat.le_succ _) ⟨hlen, out, ep, hv, he'⟩, rfl, q ys _ hy (I.hok.fresh (Nat.le_succ _))⟩
end
theorem iteNo {c A B : Prop} [Decidable c] (hc : ¬ c) (h : B) : if c then A else B := by rw [if_neg hc]; exact h
theorem iteYes {c A B : Prop} [Decidable c] (hc : c) (h : A) : if c then A else B := by rw [if_pos hc]; exact h
theorem keys_int (L : List Int) : (L.map Sum.inl : List Key).map kV = L.map V.int := by rw [List.map_map]; rfl
theorem keys_str (L : List Str) : (L.map Sum.inr : List Key).map kV = L.map V.str := by rw [List.map_map]; rfl
/-! ### what a def, a method, a class of the text is for its callers -/
section
variable (P : Program) (w : World) (K : PySem.W.Frag) (mg : Str → Option Value) (base : Heap)
/-- the def named x keeps sp at level k -/
structure Cal (x : Str) (k : Nat) (ps : List Str) (dvs : List V) (sp : Sp) : Prop where
  ex : ∃ (f : Addr) (fd : FuncData) (ds : List Value), mg x = some (.ref f) ∧ PySem.W.keepIn K (.ref f) = true ∧ Vals dvs ds ∧ Binds K fd ps ds ∧ FnOk P w K mg base CX0 k f fd ps sp
/-- the method m of the class at C -/
structure Met (C : Addr) (m : Str) (k : Nat) (ps : List Str) (sp : Sp) : Prop where
  cl : Cls K C
  ex : ∃ (f : Addr) (fd : FuncData), Meth K C m f ∧ Binds K fd ps [] ∧ FnOk P w K mg base CX0 k f fd ps sp
/-- the class named x, at C, made by its __init__ -/
structure Mkr (x : Str) (C : Addr) (k : Nat) (ps : List Str) (sp : Sp) : Prop where
  ex : ∃ (f : Addr) (fd : FuncData), mg x = some (.ref C) ∧ Mk K C f ∧ Binds K fd ps [] ∧ FnOk P w K mg base CX0 k f fd ps sp
end
section
variable {X : Cx} {x m : Str} {p pos apos : Pos} {o e : Expr} {es : List Expr} {t : TA} {ta : TE} {k : Nat} {C : Addr} {ps : List Str} {dvs : List V} {sp : Sp}
theorem pe_cal (c : Cal X.prog X.w X.K X.mg X.base x k ps dvs sp) (hr : Room k X.A) (ha : PA X (e :: es) t) (hg : Gl X x := by rfl) (hdb : (x == ("__debug__" : Str)) = false := by decide)
    (he : starEach (e :: es) X.env = (false, eval e X.env) :: starEach es X.env := by rfl) (hpl : (backTo pos (starEach es X.env)).any (·.1) = false := by rfl) : PE X (.Call (.Name x p) (e :: es) [] pos) (tCall sp dvs E0 t) := by
  obtain ⟨f, fd, ds, hm, hk, hd, hb, F⟩ := c.ex
  exact pe_call F hr hg hm hk hb hd pass0 ha hdb he hpl
theorem pe_cal0 (c : Cal X.prog X.w X.K X.mg X.base x k ps dvs sp) (hr : Room k X.A) (hg : Gl X x := by rfl) (hdb : (x == ("__debug__" : Str)) = false := by decide) : PE X (.Call (.Name x p) [] [] pos) (tCall sp dvs E0 tNil) := by
  obtain ⟨f, fd, ds, hm, hk, hd, hb, F⟩ := c.ex
  exact pe_call0 F hr hg hm hk hb hd pass0 hdb
theorem pe_me {pl : Sem Bool} (c : Met X.prog X.w X.K X.mg X.base C m k ps sp) (hr : Room k X.A) (he : PE X o ta) (ha : PA X (e :: es) t)
    (hst : starEach (e :: es) X.env = (false, eval e X.env) :: starEach es X.env := by rfl) (hpl : (backTo pos (starEach es X.env)).any (·.1) = false := by rfl)
    (ht : eval (.Call (.Attribute o m apos) (e :: es) [] pos) X.env = (do
      let ov ← eval o X.env
      standAt apos.atName
      let (f, first) ← holding [ov] (getMethod ov m pl)
      callWith pos f first (backTo pos (starEach (e :: es) X.env)) (backToKw pos (keywordEach [] X.env))) := by rfl) : PE X (.Call (.Attribute o m apos) (e :: es) [] pos) (tMeth C m sp [] E0 ta t) := by
  obtain ⟨f, fd, hm, hb, F⟩ := c.ex
  exact pe_meth (pl := pl) he c.cl hm F hr hb .nil pass0 ha hst hpl ht
theorem pe_me0 {pl : Sem Bool} (c : Met X.prog X.w X.K X.mg X.base C m k ps sp) (hr : Room k X.A) (he : PE X o ta)
    (ht : eval (.Call (.Attribute o m apos) [] [] pos) X.env = (do
      let ov ← eval o X.env
      standAt apos.atName
      let (f, first) ← holding [ov] (getMethod ov m pl)
      callWith pos f first (backTo pos (starEach [] X.env)) (backToKw pos (keywordEach [] X.env))) := by rfl) : PE X (.Call (.Attribute o m apos) [] [] pos) (tMeth C m sp [] E0 ta tNil) := by
  obtain ⟨f, fd, hm, hb, F⟩ := c.ex
  exact pe_meth0 (pl := pl) he c.cl hm F hr hb .nil pass0 ht
theorem pe_mk (c : Mkr X.prog X.w X.K X.mg X.base x C k ps sp) (hr : Room (k + 1) X.A) (ha : PA X (e :: es) t) (hg : Gl X x := by rfl) (hdb : (x == ("__debug__" : Str)) = false := by decide)
    (he : starEach (e :: es) X.env = (false, eval e X.env) :: starEach es X.env := by rfl) (hpl : (backTo pos (starEach es X.env)).any (·.1) = false := by rfl) : PE X (.Call (.Name x p) (e :: es) [] pos) (tMake C sp [] E0 t) := by
  obtain ⟨f, fd, hm, hk, hb, F⟩ := c.ex
  exact pe_make hk F hr hg hm hb .nil pass0 ha hdb he hpl
end

/-! ### isinstance of data -/
section
variable {K : PySem.W.Frag} {H : Hp}
def tyName : PyData → String
  | .none => "NoneType"
  | .bool _ => "bool"
  | .int _ => "int"
  | .str _ => "str"
  | .list _ => "list"
  | .tuple _ => "tuple"
  | .dict _ => "dict"
theorem ty_dp {v : V} {d : PyData} (h : Dp K H v d) : TyX K H v (.type (tyName d)) := by
  cases h with
  | non => exact .base .non
  | bl b => exact .base (.bl b)
  | int i => exact .base (.int i)
  | str x => exact .base (.str x)
  | lst h q =>
    rcases h with (h | ⟨o, h⟩) | ⟨o, its, n, hk, hc, _⟩
    · exact .base (.lst h)
    · exact .base (.frz h)
    · exact .kList hk hc
  | tup h q =>
    rcases h with (h | ⟨o, h⟩) | ⟨o, its, n, hk, hc, _⟩
    · exact .base (.tup h)
    · exact .fTuple h
    · exact .kTuple hk hc
/-- isinstance(x, (T, U)), x data -/
theorem isiT_dp {v : V} {d : PyData} {T U : String} {p : Addr} {b : Bool} {Q : VK} (h : Dp K H v d) (hp : H p = some (.tup [.ty T, .ty U])) (hb : PySem.W.kitAny K (.type (tyName d)) [.type T, .type U] = some b) (q : Q (.bl b) H) : rIsiTD K [v, .ref p] H Q :=
  .mk ⟨v, p, [.ty T, .ty U], .type (tyName d), [.type T, .type U], b, rfl, hp, .cons (.ty T) (.cons (.ty U) .nil), ty_dp h, hb, q⟩
/-- isinstance(x, T), x data -/
theorem isi_dp {v : V} {d : PyData} {T : String} {b : Bool} {Q : VK} (h : Dp K H v d) (hb : kitB (tyName d) T = some b) (q : Q (.bl b) H) : rIsiD K [v, .ty T] H Q :=
  .mk ⟨v, .ty T, .type (tyName d), .type T, b, rfl, .ty T, ty_dp h, kit_ty hb, q⟩
end
end TW
set_option Elab.async false
set_option linter.all false
set_option maxRecDepth 100000
set_option maxHeartbeats 4000000
/-! data walked, cut, paired -/
namespace TW
open PySem PySem.Spec PyProof.Rows L2 RZ StX
open Evl (Ex)
section
variable {K : PySem.W.Frag} {F H : Hp}
/-- two data of one kind of sequence -/
def twin (d e : PyData) (ds es : List PyData) : Prop := (d = .list ds ∧ e = .list es) ∨ (d = .tuple ds ∧ e = .tuple es)
theorem twin.l {d e : PyData} {ds es : List PyData} (h : twin d e ds es) : isSeq d ds := h.elim (fun z => .inl z.1) fun z => .inr z.1
theorem twin.r {d e : PyData} {ds es : List PyData} (h : twin d e ds es) : isSeq e es := h.elim (fun z => .inl z.2) fun z => .inr z.2
/-- a walk over data -/
theorem seq_walk {v : V} {d : PyData} {ds : List PyData} {R : It → Hp → Prop} (hd : Dp K F v d) (hq : isSeq d ds) (s : Sees F H)
    (k : ∀ J xs G, Walk J xs.length G (YAt xs) → (∀ H', Sees F H' → G H') → DpAll K F xs ds → xs.length = ds.length → R J H) : rSeq K v H R := by
  obtain ⟨a, xs, rfl, h, q⟩ := dp_seq hd hq
  rcases h with h | h
  · exact .mk ⟨a, xs, rfl, .inl ⟨sees_l s h, k _ xs _ walk_list (fun H' z => sees_l z h) q q.length⟩⟩
  · exact .mk ⟨a, xs, rfl, .inr ⟨sees_t s h, k _ xs _ walk_tup (fun H' z => sees_t z h) q q.length⟩⟩
theorem walk_zipT {a b : Addr} {xs ys : List V} {n : Nat} (hn : n = min xs.length ys.length) : Walk (ItzT K a b) n (fun H => SqT K H a xs ∧ SqT K H b ys) (YPair (fun i => xs[i]?) (fun i => ys[i]?)) := by
  subst hn
  refine ⟨fun i _ hi q => ?_, fun _ q => ⟨xs, ys, q.1, q.2, by omega⟩, fun i H v H' _ q y => ?_⟩
  · have h1 : i < xs.length := by omega
    have h2 : i < ys.length := by omega
    exact ⟨xs, ys, xs[i], ys[i], q.1, q.2, by simp [h1], by simp [h2]⟩
  · obtain ⟨T, x, z, h1, h2, h3, h4, h5⟩ := y
    exact ⟨T, x, z, h1, h2, h3, h4 xs q.1, h5 ys q.2⟩
structure rZip (K : PySem.W.Frag) (vs : List V) (H : Hp) (R : It → Hp → Prop) : Prop where
  r : ∃ a b xs ys, vs = [.ref a, .ref b] ∧ ((SqL K H a xs ∧ SqL K H b ys ∧ R (Itz K a b) H) ∨ (SqT K H a xs ∧ SqT K H b ys ∧ R (ItzT K a b) H))
def iZipD (K : PySem.W.Frag) (ta : TA) : TI := fun σ H R => ta σ H fun vs H1 => rZip K vs H1 R
/-- a reading that may be weakened -/
def upA (ta : TA) : TA := fun σ H Q => ∃ Q0, ta σ H Q0 ∧ ∀ vs H1, Q0 vs H1 → Q vs H1
theorem pa_up {X : Cx} {es : List Expr} {ta : TA} (h : PA X es ta) : PA X es (upA ta) := by
  refine ⟨fun pos pins s σ H Q I q => ?_⟩
  obtain ⟨Q0, h1, h2⟩ := q
  refine thn (h.run pos pins s σ H Q0 I h1) fun us s1 q1 => ?_
  obtain ⟨vs, H', I', r, q2⟩ := q1
  exact ⟨vs, H', I', r, h2 _ _ q2⟩
theorem pi_zipD {X : Cx} {e e2 : Expr} {ta : TA} {p pos tpos : Pos} {elts : List Expr} {kk : Nat} (K : PySem.W.Frag) (hm : X.mg "zip" = none) (ha : PA X [e, e2] ta) (hK : X.K = K := by rfl) (hg : Gl X "zip" := by rfl)
    (hs : starEach [e, e2] X.env = (false, eval e X.env) :: starEach [e2] X.env := by rfl) (hpl : (backTo pos (starEach [e2] X.env)).any (·.1) = false := by rfl) :
    PI X (.Tuple elts kk tpos) (.Call (.Name "zip" p) [e, e2] [] pos) (iZipD K ta) := by
  subst hK
  refine ⟨fun pins s σ H R I h => (pi_zipA hg hm (pa_up ha) hs hpl).run pins s σ H R I ⟨_, h, fun vs H1 q => q.r⟩⟩
theorem zip_walk {v u : V} {d e : PyData} {ds es : List PyData} {R : It → Hp → Prop} (hd : Dp K F v d) (he : Dp K F u e) (ht : twin d e ds es) (s : Sees F H)
    (k : ∀ J xs ys G, Walk J (min ds.length es.length) G (YPair (fun i => xs[i]?) (fun i => ys[i]?)) → (∀ H', Sees F H' → G H') → DpAll K F xs ds → DpAll K F ys es → R J H) :
    rZip K [v, u] H R := by
  rcases ht with ⟨rfl, rfl⟩ | ⟨rfl, rfl⟩
  · obtain ⟨a, xs, rfl, h1, q1⟩ := dp_list hd
    obtain ⟨b, ys, rfl, h2, q2⟩ := dp_list he
    exact .mk ⟨a, b, xs, ys, rfl, .inl ⟨sees_l s h1, sees_l s h2, k _ xs ys _ (walk_zip (by rw [q1.length, q2.length])) (fun H' z => ⟨sees_l z h1, sees_l z h2⟩) q1 q2⟩⟩
  · obtain ⟨a, xs, rfl, h1, q1⟩ := dp_tup hd
    obtain ⟨b, ys, rfl, h2, q2⟩ := dp_tup he
    exact .mk ⟨a, b, xs, ys, rfl, .inr ⟨sees_t s h1, sees_t s h2, k _ xs ys _ (walk_zipT (by rw [q1.length, q2.length])) (fun H' z => ⟨sees_t z h1, sees_t z h2⟩) q1 q2⟩⟩
/-- x[lo:hi] -/
theorem DpAll.drop : ∀ {vs : List V} {ds : List PyData} (n : Nat), DpAll K F vs ds → DpAll K F (vs.drop n) (ds.drop n)
  | _, _, 0, h => h
  | _, _, _ + 1, .nil => .nil
  | _, _, n + 1, .cons _ t => DpAll.drop n t
theorem DpAll.take : ∀ {vs : List V} {ds : List PyData} (n : Nat), DpAll K F vs ds → DpAll K F (vs.take n) (ds.take n)
  | _, _, 0, _ => .nil
  | _, _, _ + 1, .nil => .nil
  | _, _, n + 1, .cons h t => .cons h (DpAll.take n t)
def cutD (ds : List PyData) (lo hi : Option Int) : List PyData := (ds.drop (HT.sIx ds.length 0 lo)).take (HT.sIx ds.length ds.length hi - HT.sIx ds.length 0 lo)
theorem cutD_from (ds : List PyData) (k : Nat) : cutD ds (some (k : Int)) none = ds.drop k := by
  unfold cutD
  rw [HT.sIx_nat, HT.sIx_none]
  by_cases h : k ≤ ds.length
  · rw [Nat.min_eq_left h, List.take_of_length_le (by rw [List.length_drop]; exact Nat.le_refl _)]
  · have h' : ds.length ≤ k := by omega
    rw [Nat.min_eq_right h', List.drop_length, List.drop_of_length_le h']
    simp
theorem cutD_to (ds : List PyData) (k : Nat) : cutD ds none (some (k : Int)) = ds.take k := by
  unfold cutD
  rw [HT.sIx_nat, HT.sIx_none]
  by_cases h : k ≤ ds.length
  · rw [Nat.min_eq_left h]; simp
  · have h' : ds.length ≤ k := by omega
    rw [Nat.min_eq_right h', List.take_of_length_le h']
    simp
theorem DpAll.cut {vs : List V} {ds : List PyData} (h : DpAll K F vs ds) (lo hi : Option Int) : DpAll K F (cutV vs lo hi) (cutD ds lo hi) := by
  unfold cutV cutD
  rw [h.length]
  exact DpAll.take _ (DpAll.drop _ h)
theorem slL_dp {v : V} {ds : List PyData} {lo hi : Option Int} {Q : VK} (hd : Dp K F v (.list ds)) (s : Sees F H) (k : ∀ p ys F' H', Gr [] F H F' H' → H p = none → F' p = none → H' p = some (.lst ys) → DpAll K F' ys (cutD ds lo hi) → Q (.ref p) H') : rSlL K v lo hi H Q := by
  obtain ⟨a, xs, rfl, h, q⟩ := dp_list hd
  exact ⟨a, xs, rfl, sees_l s h, fun p hp => k p _ F _ ((Gr.refl s).newM hp) hp (s.dm hp) upd_same (DpAll.cut q lo hi)⟩
theorem slT_dp {v : V} {ds : List PyData} {lo hi : Option Int} {Q : VK} (hd : Dp K F v (.tuple ds)) (s : Sees F H) (k : ∀ r F' H', Gr [] F H F' H' → Dp K F' r (.tuple (cutD ds lo hi)) → Q r H') : rSlA K v lo hi H Q := by
  obtain ⟨a, xs, rfl, h, q⟩ := dp_tup hd
  refine ⟨a, xs, rfl, sees_t s h, fun hw => k _ F H (Gr.refl s) ?_, fun _ p hp => k _ _ _ ((Gr.refl s).new hp) (.tup (.inl (.inl upd_same)) ((DpAll.cut q lo hi).ex (Ex.new (s.dm hp))))⟩
  have e : cutD ds lo hi = ds := by
    unfold cutD
    rw [← q.length, hw.1, hw.2, List.drop_zero, Nat.sub_zero, List.take_of_length_le (by rw [q.length]; exact Nat.le_refl _)]
  rw [e]
  exact .tup h q
/-- either -/
theorem slQ_dp {v : V} {d : PyData} {ds : List PyData} {lo hi : Option Int} {Q : VK} (hd : Dp K F v d) (hq : isSeq d ds) (s : Sees F H) (k : ∀ r e F' H', Gr [] F H F' H' → twin d e ds (cutD ds lo hi) → Dp K F' r e → Q r H') : rSlD K v lo hi H Q := by
  rcases hq with rfl | rfl
  · refine .mk (.inl (slL_dp hd s fun p ys F' H' g hp hf hh hy => k _ (.list (cutD ds lo hi)) _ H' (g.done hp hf hh) (.inl ⟨rfl, rfl⟩) (.lst (.inl (.inl upd_same)) (hy.ex (Ex.new hf)))))
  · exact .mk (.inr (slT_dp hd s fun r F' H' g hr => k r _ F' H' g (.inr ⟨rfl, rfl⟩) hr))
/-- len of data -/
theorem len_dp {v : V} {d : PyData} {ds : List PyData} {Q : VK} (hd : Dp K F v d) (hq : isSeq d ds) (s : Sees F H) (q : Q (.int ds.length) H) : rLenD K [v] H Q := by
  obtain ⟨a, xs, rfl, h, hx⟩ := dp_seq hd hq
  exact .mk ⟨a, xs, rfl, h.imp (sees_l s) (sees_t s), by rw [hx.length]; exact q⟩
/-- an item of data -/
theorem ix_dp {v : V} {d e : PyData} {ds : List PyData} {i : Int} {Q : VK} (hd : Dp K F v d) (hq : isSeq d ds) (s : Sees F H) (hi : atI ds i = some e) (q : ∀ r, Dp K F r e → Q r H) : rIxD K v (.int i) H Q := by
  obtain ⟨a, xs, rfl, h, hx⟩ := dp_seq hd hq
  have go : ∃ r, atI xs i = some r ∧ Dp K F r e := by
    unfold atI at hi ⊢
    rw [hx.length]
    cases hj : ixN ds.length i with
    | none => rw [hj] at hi; cases hi
    | some j =>
      rw [hj] at hi
      obtain ⟨r, h1, h2⟩ := hx.getD hi
      exact ⟨r, h1, h2⟩
  obtain ⟨r, h1, h2⟩ := go
  rcases h with h | h
  · exact .mk (.inl ⟨a, xs, i, r, rfl, rfl, sees_l s h, h1, q r h2⟩)
  · exact .mk (.inr ⟨a, xs, i, r, rfl, rfl, sees_t s h, h1, q r h2⟩)
/-- tuple(x), list(x) of data -/
theorem tuple_dp {v : V} {d : PyData} {ds : List PyData} {Q : VK} (hd : Dp K F v d) (hq : isSeq d ds) (s : Sees F H) (k : ∀ r F' H', Gr [] F H F' H' → Dp K F' r (.tuple ds) → Q r H') : rTupD K [v] H Q := by
  rcases hq with rfl | rfl
  · obtain ⟨a, xs, rfl, h, hx⟩ := dp_list hd
    exact .mk ⟨a, xs, rfl, .inl ⟨sees_l s h, fun l hl => k _ _ _ ((Gr.refl s).new hl) (.tup (.inl (.inl upd_same)) (hx.ex (Ex.new (s.dm hl))))⟩⟩
  · obtain ⟨a, xs, rfl, h, hx⟩ := dp_tup hd
    exact .mk ⟨a, xs, rfl, .inr ⟨sees_t s h, k _ F H (Gr.refl s) (.tup h hx)⟩⟩
theorem list_dp {v : V} {d : PyData} {ds : List PyData} {Q : VK} (hd : Dp K F v d) (hq : isSeq d ds) (s : Sees F H) (k : ∀ p ys F' H', Gr [] F H F' H' → H p = none → F' p = none → H' p = some (.lst ys) → DpAll K F' ys ds → Q (.ref p) H') : rLisD K [v] H Q := by
  obtain ⟨a, xs, rfl, h, hx⟩ := dp_seq hd hq
  exact .mk ⟨a, xs, rfl, h.imp (sees_l s) (sees_t s), fun l hl => k l xs F _ ((Gr.refl s).newM hl) hl (s.dm hl) upd_same hx⟩
/-- all(l), any(l), l a new list of truth values -/
theorem all_new {p : Addr} {bs : List Bool} {Q : VK} (h : H p = some (.lst (bs.map V.bl))) (q : Q (.bl (bs.all id)) H) : rAllD K [.ref p] H Q := .mk ⟨p, bs, rfl, .inl (.inl h), q⟩
theorem any_new {p : Addr} {bs : List Bool} {Q : VK} (h : H p = some (.lst (bs.map V.bl))) (q : Q (.bl (bs.any id)) H) : rAnyD K [.ref p] H Q := .mk ⟨p, bs, rfl, .inl (.inl h), q⟩
end
/-! ### comprehensions over data -/
section
variable {K : PySem.W.Frag} {J : It} {G : Hp → Prop} {g : TG} {tt : TT} {te : TE} {vs : List Nat} {σ : L2.St} {F H1 : Hp} {D : Addr} {Qd : Hp → Prop} {β : Type} {bs : List β} {enc : β → PyData} {xs : List V}
theorem yAt_dp (hx : DpAll K F xs (bs.map enc)) {i : Nat} {b : β} {x : V} {F' H' H'' : Hp} (hb : bs[i]? = some b) (g1 : Gr [] F H1 F' H') (y : YAt xs i H' x H'') : ∃ F'', Gr [] F' H' F'' H'' ∧ Dp K F'' x (enc b) := by
  obtain ⟨rfl, hxi⟩ := y
  obtain ⟨d, h1, h2⟩ := hx.get hxi
  rw [List.getElem?_map, hb] at h1
  cases h1
  exact ⟨F', Gr.refl g1.fh, h2.ex g1.ff⟩
theorem lc_seqP {p : β → Bool} {f : β → PyData} (w : Walk J xs.length G (YAt xs)) (hx : DpAll K F xs (bs.map enc)) (sees : Sees F H1) (hG : ∀ H', Sees F H' → G H') (hz : bs.length ≤ 100000)
    (hs : ∀ b x F' H', b ∈ bs → Gr [] F H1 F' H' → Dp K F' x (enc b) → TurnP [] g tt te vs σ x F' H' (p b) (fun y F3 _ => Dp K F3 y (f b)))
    (hD : H1 D = none) (q : ∀ acc F' H', Gr [] F H1 F' H' → F' D = none → H' D = some (.lst acc) → DpAll K F' acc ((bs.filter p).map f) → Qd H') : LcW J g tt te vs σ H1 D Qd :=
  lc_pure (K := K) (Im := fun b x F => Dp K F x (enc b)) (by rw [hx.length, List.length_map] at w; exact w) sees hG hz (fun i b x F' H' H'' hb g1 y => yAt_dp hx hb g1 y) hs hD q
theorem lc_seqM {f : β → PyData} (w : Walk J xs.length G (YAt xs)) (hx : DpAll K F xs (bs.map enc)) (sees : Sees F H1) (hG : ∀ H', Sees F H' → G H') (hz : bs.length ≤ 100000)
    (hs : ∀ b x F' H', b ∈ bs → Gr [] F H1 F' H' → Dp K F' x (enc b) → TurnP [] g tt te vs σ x F' H' true (fun y F3 _ => Dp K F3 y (f b)))
    (hD : H1 D = none) (q : ∀ acc F' H', Gr [] F H1 F' H' → F' D = none → H' D = some (.lst acc) → DpAll K F' acc (bs.map f) → Qd H') : LcW J g tt te vs σ H1 D Qd :=
  lc_map (K := K) (Im := fun b x F => Dp K F x (enc b)) (by rw [hx.length, List.length_map] at w; exact w) sees hG hz (fun i b x F' H' H'' hb g1 y => yAt_dp hx hb g1 y) hs hD q
theorem lc_seqB {f : β → Bool} (w : Walk J xs.length G (YAt xs)) (hx : DpAll K F xs (bs.map enc)) (sees : Sees F H1) (hG : ∀ H', Sees F H' → G H') (hz : bs.length ≤ 100000)
    (hs : ∀ b x F' H', b ∈ bs → Gr [] F H1 F' H' → Dp K F' x (enc b) → TurnP [] g tt te vs σ x F' H' true (fun y F3 _ => y = .bl (f b)))
    (hD : H1 D = none) (q : ∀ F' H', Gr [] F H1 F' H' → F' D = none → H' D = some (.lst ((bs.map f).map V.bl)) → Qd H') : LcW J g tt te vs σ H1 D Qd :=
  lc_bools K (Im := fun b x F => Dp K F x (enc b)) (by rw [hx.length, List.length_map] at w; exact w) sees hG hz (fun i b x F' H' H'' hb g1 y => yAt_dp hx hb g1 y) hs hD q
/-- a turn over pairs -/
theorem turn2 {B : List Addr} {i j : Nat} {T : Addr} {x y : V} {F H : Hp} {R : V → Hp → Hp → Prop} {R0 : Hp → Hp → Prop} (hT : SqT K H T [x, y]) (hw : wipe (((wipe σ vs).set i (some x)).set j (some y)) vs = wipe σ vs)
    (h : ∀ Yes : V → Hp → Prop, (∀ y F3 H3, Gr B F H F3 H3 → R y F3 H3 → Yes y H3) → te (((wipe σ vs).set i (some x)).set j (some y)) H Yes) : TurnP B (gTup K 2 (gCons (gName i) (gCons (gName j) gNil))) tYes te vs σ (.ref T) F H true R R0 :=
  fun Yes No _ h1 => ⟨T, [x, y], rfl, hT, rfl, _, _, rfl, _, _, rfl, rfl, hw, yesI (h Yes (h1 rfl))⟩
end
/-! pairs of neighbours -/
section
variable {K : PySem.W.Frag} {J : It} {G : Hp → Prop} {g : TG} {tt : TT} {te : TE} {vs : List Nat} {σ : L2.St} {F H1 : Hp} {D : Addr} {Qd : Hp → Prop} {β γ : Type} {bs : List β} {cs : List γ} {enc : β → PyData} {end' : γ → PyData} {xs ys : List V}
theorem yPair_dp (hx : DpAll K F xs (bs.map enc)) (hy : DpAll K F ys (cs.map end')) {i : Nat} {b : β × γ} {v : V} {F' H' H'' : Hp} (hb : (bs.zip cs)[i]? = some b) (g1 : Gr [] F H1 F' H') (y : YPair (fun i => xs[i]?) (fun i => ys[i]?) i H' v H'') :
    ∃ F'', Gr [] F' H' F'' H'' ∧ ∃ T x y, v = .ref T ∧ F'' T = some (.tup [x, y]) ∧ Dp K F'' x (enc b.1) ∧ Dp K F'' y (end' b.2) := by
  obtain ⟨T, x1, y1, rfl, hT, rfl, h1, h2⟩ := y
  obtain ⟨i1, i2⟩ := List.getElem?_zip_eq_some.mp hb
  obtain ⟨d, k1, k2⟩ := hx.get h1
  obtain ⟨e, k3, k4⟩ := hy.get h2
  rw [List.getElem?_map, i1] at k1
  rw [List.getElem?_map, i2] at k3
  cases k1
  cases k3
  exact ⟨_, (Gr.refl g1.fh).new hT, T, x1, y1, rfl, upd_same, (k2.ex g1.ff).ex (Ex.new (g1.fh.dm hT)), (k4.ex g1.ff).ex (Ex.new (g1.fh.dm hT))⟩
end
/-! loops of a display of two clauses -/
section
variable {J : It} {n : Nat} {G : Hp → Prop} {Y : Nat → Hp → V → Hp → Prop}
theorem loop_it (w : Walk J n G Y) {H0 : Hp} {stop : Hp → Prop} {turn : V → Hp → (Hp → Prop) → Prop} (P : Nat → Hp → Prop) (h0 : P 0 H0) (hG : ∀ i H, i ≤ n → P i H → G H) (hs : ∀ i x H H', i < n → P i H → Y i H x H' → turn x H' (P (i + 1))) (hd : ∀ H, P n H → stop H) :
    ∃ W : Nat → Nat → Hp → Prop, (∃ m, W 0 m H0) ∧ ∀ i m H, W i m H → (J.stop i H ∧ stop H) ∨ (J.go i H ∧ ∃ Nx : Hp → Prop, (∀ H', Nx H' → ∃ m', m' < m ∧ W (i + 1) m' H') ∧ ∀ x H', J.yld i H x H' → turn x H' Nx) := by
  refine ⟨fun i m H => m = n - i ∧ i ≤ n ∧ P i H, ⟨n, by simp, Nat.zero_le _, h0⟩, ?_⟩
  rintro i m H ⟨rfl, hi, p⟩
  have q := hG i H hi p
  by_cases lt : i < n
  · exact .inr ⟨w.goes i H lt q, P (i + 1), fun H' p' => ⟨n - (i + 1), by omega, rfl, lt, p'⟩, fun x H' y => hs i x H H' lt p (w.yields i H x H' lt q y)⟩
  · have e : i = n := by omega
    subst e
    exact .inl ⟨w.stops H q, hd H p⟩
end
/-- a finished dict, its class -/
theorem isi_dK {K : PySem.W.Frag} {H : Hp} {a : Addr} {kvs : List (Key × V)} {T : String} {b : Bool} {Q : VK} (h : H a = some (.dK kvs)) (hb : kitB "dict" T = some b) (q : Q (.bl b) H) : rIsiD K [.ref a, .ty T] H Q :=
  .mk ⟨.ref a, .ty T, .type "dict", .type T, b, rfl, .ty T, .base (.dK h), kit_ty hb, q⟩
end TW
set_option Elab.async false
set_option linter.all false
set_option maxRecDepth 100000
set_option maxHeartbeats 4000000
/-! tuple(d): the keys of a dict -/
namespace TW
open PySem PySem.Spec PyProof.Rows L2 RZ StX
section
variable {X : Cx}
/-- tuple(d) -/
structure rTupKD (xs : List V) (H : Hp) (Q : VK) : Prop where
  r : ∃ (a : Addr) (kvs : List (Key × V)), xs = [.ref a] ∧ Rd H a (.dK kvs) ∧ ∀ p, H p = none → Q (.ref p) (upd H p (.tup (kvs.map fun kv => kV kv.1)))
theorem cr_tupKD (hcalm : X.calm = true := by rfl) : CallR X (.type "tuple") rTupKD := by
  intro pins s σ H xs us Q I r h
  obtain ⟨a, kvs, rfl, hd, q⟩ := h.r
  rw [Vals.ref1 r]
  obtain ⟨z, lo, vs, rel, dd⟩ := dk_rd I.hok hd
  obtain ⟨ep, hat⟩ := dd.dictAt
  have ek : (kvs.map fun kv => kV kv.1) = vs.map fun p => kV p.1 := by
    have e := congrArg (List.map kV) rel.keys
    rw [List.map_map, List.map_map] at e
    exact e
  have hz : vs.length ≤ sizeLine := by rw [← rel.length]; exact z
  have hTd : s.TypeIs (.ref a) "dict" := dd.typeIs
  refine callType_codes (Q₁ := fun obj s₁ => s₁.TypeIs obj "tuple" ∧ EP X pins σ Q obj s₁) F.called_tuple (F.typeCall_tuple_1 _) F.entry_object_init ?_
    fun obj s₁ h₁ => ⟨h₁.1, F.args_object_init_2 obj _, object_init_meets F.called_tuple.init.lookup F.called_tuple.made (by decide) X.prog X.w X.A.in1 _ s₁ ⟨h₁.1, rfl, h₁.2⟩⟩
  refine codeAny_of_tree ?_
  show wpAny _ X.A.in1.in1 (do checkBuiltinCall "tuple.__new__" ⟨[.type "tuple", .ref a], []⟩; again (.builtin "tuple.__new__" ⟨[.type "tuple", .ref a], []⟩)) _ _ s
  refine wpAny_bind (wpAny_of_eq (F.newCall_tuple_1 _) (wpAny_pure ⟨plainId_quiet F.plain_tuple_new _, codeAny_builtin F.entry_tuple_new ?_⟩))
  rw [Around.under_plainId F.plain_tuple_new _]
  have y1 := sub_tuple_self
  have y2 := init_tuple_lookup
  have y3 := madeHere_tuple
  have hh : X.A.in1.in1.handled = none := I.ok.hd hcalm
  have col : ∀ (E : Value → Shared → Prop) (R : List Value → Shared → Prop), (∀ h' tk acc, (∀ b o, s.heap.get? b = some o → h'.get? b = some o) → Vals (kvs.map fun kv => kV kv.1) acc → acc.length ≤ sizeLine → R acc { s with heap := h', toks := tk }) → wpAny (model X.prog X.w) X.A.in1.in1 (collect (.ref a)) R E s := fun E R hR =>
    PySem.W.kdu_collect (A := X.A.in1.in1) (PySem.W.kdl_dict (knd := mixKind X.prog X.w) (kvs := vs) (ep := ep) lo) hh hat hz fun h' tk acc hk hacc => hR h' tk acc.toList hk (by
      rw [ek]
      exact keys_at (by rw [Array.length_toList]; exact hacc.1) fun j v e => hacc.2 j v (by rw [← Array.getElem?_toList]; exact e)) (by rw [Array.length_toList, hacc.1]; exact hz)
  wp_walk using wpAny_typeOf hTd, col _ _
  intro h' tk acc hk hv hl
  show wpAny _ _ (Builtin.Tuple.tupleExact acc.toArray >>= fun v => ret v) _ _ _
  unfold Builtin.Tuple.tupleExact
  refine wpAny_bind (wpAny_newObj_type ?_ (by show acc.toArray.size ≤ sizeLine; rw [List.size_toArray]; exact hl))
  refine wpAny_pure ⟨⟨_, Heap.get?_push_size _ rfl, rfl⟩, ?_⟩
  have I1 : Inv X pins σ H { s with heap := h', toks := tk } := I.kept hk
  have I2 : Inv X pins σ (upd H h'.objs.size (.tup (kvs.map fun kv => kV kv.1))) { s with heap := h'.push { cls := .type "tuple", data := .seq acc.toArray }, toks := tk } :=
    I1.laid (t' := tk) (fun b o e => Heap.get?_push_of_some _ e) (Nat.le_refl _) (show ObjOk X.prog X.w _ _ _ (.tup _) from ⟨by rw [hv.length]; exact hl, acc, hv, IsTup.new _ _⟩)
  exact ⟨.ref h'.objs.size, _, I2, rfl, q _ (I1.hok.fresh (Nat.le_refl _))⟩
end
end TW
set_option Elab.async false
set_option linter.all false
set_option maxRecDepth 100000
/-! the text by places -/
namespace TW
open PySem L2
def topS (i : Nat) : Stmt := PySem.Challenge.pw_throughwalls_k05_whole_known_by_listing.main.body.getD i (.Pass ⟨0, 0, 0, 0⟩)
abbrev s_is_integer : Stmt := topS 6
abbrev sc_is_integerN : List Str := ["value"]
theorem sc_is_integer : FnScope sc_is_integerN ["value"] (defScope s_is_integer) := ⟨rfl, rfl, rfl, by decide +kernel, rfl, by decide +kernel, by decide +kernel⟩
abbrev s_is_within : Stmt := topS 7
abbrev sc_is_withinN : List Str := ["value", "least", "most"]
theorem sc_is_within : FnScope sc_is_withinN ["value", "least", "most"] (defScope s_is_within) := ⟨rfl, rfl, rfl, by decide +kernel, rfl, by decide +kernel, by decide +kernel⟩
abbrev s_is_listed : Stmt := topS 8
abbrev sc_is_listedN : List Str := ["value"]
theorem sc_is_listed : FnScope sc_is_listedN ["value"] (defScope s_is_listed) := ⟨rfl, rfl, rfl, by decide +kernel, rfl, by decide +kernel, by decide +kernel⟩
abbrev s_is_sound : Stmt := topS 9
abbrev sc_is_soundN : List Str := ["value"]
theorem sc_is_sound : FnScope sc_is_soundN ["value"] (defScope s_is_sound) := ⟨rfl, rfl, rfl, by decide +kernel, rfl, by decide +kernel, by decide +kernel⟩
abbrev s_is_mark : Stmt := topS 10
abbrev sc_is_markN : List Str := ["value", "sign"]
theorem sc_is_mark : FnScope sc_is_markN ["value"] (defScope s_is_mark) := ⟨rfl, rfl, rfl, by decide +kernel, rfl, by decide +kernel, by decide +kernel⟩
abbrev s_is_heard : Stmt := topS 11
abbrev sc_is_heardN : List Str := ["value"]
theorem sc_is_heard : FnScope sc_is_heardN ["value"] (defScope s_is_heard) := ⟨rfl, rfl, rfl, by decide +kernel, rfl, by decide +kernel, by decide +kernel⟩
abbrev s_ascends : Stmt := topS 12
abbrev sc_ascendsN : List Str := ["value", "one", "other"]
theorem sc_ascends : FnScope sc_ascendsN ["value"] (defScope s_ascends) := ⟨rfl, rfl, rfl, by decide +kernel, rfl, by decide +kernel, by decide +kernel⟩
abbrev s_is_lot : Stmt := topS 13
abbrev sc_is_lotN : List Str := ["value", "place"]
theorem sc_is_lot : FnScope sc_is_lotN ["value"] (defScope s_is_lot) := ⟨rfl, rfl, rfl, by decide +kernel, rfl, by decide +kernel, by decide +kernel⟩
abbrev s_is_arrow : Stmt := topS 22
abbrev sc_is_arrowN : List Str := ["value"]
theorem sc_is_arrow : FnScope sc_is_arrowN ["value"] (defScope s_is_arrow) := ⟨rfl, rfl, rfl, by decide +kernel, rfl, by decide +kernel, by decide +kernel⟩
abbrev s_Speech___init__ : Stmt := inClass (topS 24) 0
abbrev sc_Speech___init__N : List Str := ["self", "arrows", "starts", "arrow", "found", "one", "other", "places", "at"]
theorem sc_Speech___init__ : FnScope sc_Speech___init__N ["self", "arrows", "starts"] (defScope s_Speech___init__) := ⟨rfl, rfl, rfl, by decide +kernel, rfl, by decide +kernel, by decide +kernel⟩
abbrev s_need_speech : Stmt := topS 25
abbrev sc_need_speechN : List Str := ["value", "part"]
theorem sc_need_speech : FnScope sc_need_speechN ["value", "part"] (defScope s_need_speech) := ⟨rfl, rfl, rfl, by decide +kernel, rfl, by decide +kernel, by decide +kernel⟩
abbrev s_are_marks : Stmt := topS 29
abbrev sc_are_marksN : List Str := ["value", "mark"]
theorem sc_are_marks : FnScope sc_are_marksN ["value"] (defScope s_are_marks) := ⟨rfl, rfl, rfl, by decide +kernel, rfl, by decide +kernel, by decide +kernel⟩
abbrev s_Wall___init__ : Stmt := inClass (topS 30) 0
abbrev sc_Wall___init__N : List Str := ["self", "marks", "sound", "every", "mark"]
theorem sc_Wall___init__ : FnScope sc_Wall___init__N ["self", "marks"] (defScope s_Wall___init__) := ⟨rfl, rfl, rfl, by decide +kernel, rfl, by decide +kernel, by decide +kernel⟩
abbrev s_need_wall : Stmt := topS 31
abbrev sc_need_wallN : List Str := ["value", "speech", "sound"]
theorem sc_need_wall : FnScope sc_need_wallN ["value", "speech"] (defScope s_need_wall) := ⟨rfl, rfl, rfl, by decide +kernel, rfl, by decide +kernel, by decide +kernel⟩
abbrev s_Hearing___init__ : Stmt := inClass (topS 33) 0
abbrev sc_Hearing___init__N : List Str := ["self", "speech", "wall", "place", "mark", "sound", "later"]
theorem sc_Hearing___init__ : FnScope sc_Hearing___init__N ["self", "speech", "wall"] (defScope s_Hearing___init__) := ⟨rfl, rfl, rfl, by decide +kernel, rfl, by decide +kernel, by decide +kernel⟩
abbrev s_Hearing_closed : Stmt := inClass (topS 33) 1
abbrev sc_Hearing_closedN : List Str := ["self", "places", "found", "line", "place", "later"]
theorem sc_Hearing_closed : FnScope sc_Hearing_closedN ["self", "places"] (defScope s_Hearing_closed) := ⟨rfl, rfl, rfl, by decide +kernel, rfl, by decide +kernel, by decide +kernel⟩
abbrev s_Hearing_behind : Stmt := inClass (topS 33) 2
abbrev sc_Hearing_behindN : List Str := ["self", "places", "mark", "led", "found", "place", "later"]
theorem sc_Hearing_behind : FnScope sc_Hearing_behindN ["self", "places", "mark"] (defScope s_Hearing_behind) := ⟨rfl, rfl, rfl, by decide +kernel, rfl, by decide +kernel, by decide +kernel⟩
abbrev s_Hearing_begun : Stmt := inClass (topS 33) 3
abbrev sc_Hearing_begunN : List Str := ["self"]
theorem sc_Hearing_begun : FnScope sc_Hearing_begunN ["self"] (defScope s_Hearing_begun) := ⟨rfl, rfl, rfl, by decide +kernel, rfl, by decide +kernel, by decide +kernel⟩
abbrev s_need_hearing : Stmt := topS 34
abbrev sc_need_hearingN : List Str := ["speech", "wall"]
theorem sc_need_hearing : FnScope sc_need_hearingN ["speech", "wall"] (defScope s_need_hearing) := ⟨rfl, rfl, rfl, by decide +kernel, rfl, by decide +kernel, by decide +kernel⟩
abbrev s_need_row : Stmt := topS 35
abbrev sc_need_rowN : List Str := ["hearing", "value", "at", "mark"]
theorem sc_need_row : FnScope sc_need_rowN ["hearing", "value"] (defScope s_need_row) := ⟨rfl, rfl, rfl, by decide +kernel, rfl, by decide +kernel, by decide +kernel⟩
abbrev s_known : Stmt := topS 36
abbrev sc_knownN : List Str := ["speech", "wall", "row", "hearing", "places", "mark"]
theorem sc_known : FnScope sc_knownN ["speech", "wall", "row"] (defScope s_known) := ⟨rfl, rfl, rfl, by decide +kernel, rfl, by decide +kernel, by decide +kernel⟩
abbrev s__law_pen : Stmt := topS 38
abbrev sc__law_penN : List Str := ["script", "cell"]
theorem sc__law_pen : FnScope sc__law_penN ["script"] (defScope s__law_pen) := ⟨rfl, rfl, rfl, by decide +kernel, rfl, by decide +kernel, by decide +kernel⟩
abbrev s__law_draw : Stmt := topS 39
abbrev sc__law_drawN : List Str := ["pen", "many", "rest", "turn", "cell", "mixed"]
theorem sc__law_draw : FnScope sc__law_drawN ["pen", "many"] (defScope s__law_draw) := ⟨rfl, rfl, rfl, by decide +kernel, rfl, by decide +kernel, by decide +kernel⟩
abbrev s__law_pick : Stmt := topS 40
abbrev sc__law_pickN : List Str := ["pen", "some"]
theorem sc__law_pick : FnScope sc__law_pickN ["pen", "some"] (defScope s__law_pick) := ⟨rfl, rfl, rfl, by decide +kernel, rfl, by decide +kernel, by decide +kernel⟩
abbrev s__law_shuffled : Stmt := topS 41
abbrev sc__law_shuffledN : List Str := ["pen", "some", "rest", "found"]
theorem sc__law_shuffled : FnScope sc__law_shuffledN ["pen", "some"] (defScope s__law_shuffled) := ⟨rfl, rfl, rfl, by decide +kernel, rfl, by decide +kernel, by decide +kernel⟩
abbrev s__law_arrows : Stmt := topS 42
abbrev sc__law_arrowsN : List Str := ["pen", "many", "sounds", "number", "found", "turn", "arrow"]
theorem sc__law_arrows : FnScope sc__law_arrowsN ["pen", "many", "sounds", "number"] (defScope s__law_arrows) := ⟨rfl, rfl, rfl, by decide +kernel, rfl, by decide +kernel, by decide +kernel⟩
abbrev s__law_marks : Stmt := topS 43
abbrev sc__law_marksN : List Str := ["pen", "sounds", "is_wide", "found", "sound", "way"]
theorem sc__law_marks : FnScope sc__law_marksN ["pen", "sounds", "is_wide"] (defScope s__law_marks) := ⟨rfl, rfl, rfl, by decide +kernel, rfl, by decide +kernel, by decide +kernel⟩
abbrev s__law_plain : Stmt := topS 44
abbrev sc__law_plainN : List Str := ["pen", "many", "number", "sounds", "arrows", "starts", "turn"]
theorem sc__law_plain : FnScope sc__law_plainN ["pen", "many", "number"] (defScope s__law_plain) := ⟨rfl, rfl, rfl, by decide +kernel, rfl, by decide +kernel, by decide +kernel⟩
abbrev s__law_all_marks : Stmt := topS 45
abbrev sc__law_all_marksN : List Str := ["arrows", "marks", "found", "sound", "mark"]
theorem sc__law_all_marks : FnScope sc__law_all_marksN ["arrows", "marks"] (defScope s__law_all_marks) := ⟨rfl, rfl, rfl, by decide +kernel, rfl, by decide +kernel, by decide +kernel⟩
abbrev s__law_listed : Stmt := topS 46
abbrev sc__law_listedN : List Str := ["arrows", "starts", "marks", "steps", "length", "found", "line", "start", "turn", "later", "place", "row", "here", "sound", "there", "mark", "longer"]
theorem sc__law_listed : FnScope sc__law_listedN ["arrows", "starts", "marks", "steps", "length"] (defScope s__law_listed) := ⟨rfl, rfl, rfl, by decide +kernel, rfl, by decide +kernel, by decide +kernel⟩
abbrev s__law_one_right : Stmt := topS 47
abbrev sc__law_one_rightN : List Str := ["pen", "many", "arrows", "starts", "marks", "speech", "wall", "every", "listed", "rows", "turn", "mark", "row"]
theorem sc__law_one_right : FnScope sc__law_one_rightN ["pen"] (defScope s__law_one_right) := ⟨rfl, rfl, rfl, by decide +kernel, rfl, by decide +kernel, by decide +kernel⟩
abbrev s_law : Stmt := topS 48
abbrev sc_lawN : List Str := ["script", "pen", "lap"]
theorem sc_law : FnScope sc_lawN ["script"] (defScope s_law) := ⟨rfl, rfl, rfl, by decide +kernel, rfl, by decide +kernel, by decide +kernel⟩
end TW
set_option Elab.async false
set_option linter.all false
set_option maxRecDepth 100000
set_option maxHeartbeats 4000000
/-! the checks -/
namespace TW
open PySem PySem.Spec PyProof.Rows L2 RZ StX
open Evl (Ex)
/-- the module's names that the bodies read -/
structure Txt (mg : Str → Option Value) : Prop where
  isinstance : mg "isinstance" = none
  len : mg "len" = none
  all : mg "all" = none
  any : mg "any" = none
  sorted : mg "sorted" = none
  zip : mg "zip" = none
  enumerate : mg "enumerate" = none
  range : mg "range" = none
  abs : mg "abs" = none
  set : mg "set" = none
  tuple : mg "tuple" = none
  list : mg "list" = none
  dict : mg "dict" = none
  int : mg "int" = none
  bool : mg "bool" = none
  str : mg "str" = none
  repr : mg "repr" = none
  c_SIGNS : ∃ u, mg "SIGNS" = some u ∧ L2.RelV (.str "abcdefghijklmnopqrstuvwxyz") u
  c_MARK_SIGNS : ∃ u, mg "MARK_SIGNS" = some u ∧ L2.RelV (.str "abcdefghijklmnopqrstuvwxyz+-") u
  c_MOST_SIGNS : ∃ u, mg "MOST_SIGNS" = some u ∧ L2.RelV (.int 8) u
  c_MOST_PLACE : ∃ u, mg "MOST_PLACE" = some u ∧ L2.RelV (.int 399) u
  c_MOST_ARROWS : ∃ u, mg "MOST_ARROWS" = some u ∧ L2.RelV (.int 2000) u
  c_ARROW : ∃ u, mg "ARROW" = some u ∧ L2.RelV (.int 3) u
  c_MOST_MARKS : ∃ u, mg "MOST_MARKS" = some u ∧ L2.RelV (.int 6) u
theorem zc {X : Cx} {x : Str} {v : V} {pos : Pos} (c : ∃ u, X.mg x = some u ∧ L2.RelV v u) (hg : Gl X x := by rfl) (hd : (x == ("__debug__" : Str)) = false := by decide) : PE X (.Name x pos) (tC v) := by
  obtain ⟨u, h1, h2⟩ := c
  exact pe_glob hg h1 h2 hd

/-! what they tell -/
def isInt : PyData → Bool
  | .int _ => true
  | _ => false
def isWithin (lo hi : Int) : PyData → Bool
  | .int i => decide (lo ≤ i) && decide (i ≤ hi)
  | _ => false
def isListed : PyData → Bool
  | .list _ => true
  | .tuple _ => true
  | _ => false
def occB (big small : Str) : Bool := !(Builtin.Str.occurrences big small 0 big.length 1).isEmpty
def isSound : PyData → Bool
  | .str x => decide ((x.length : Int) = 1) && occB "abcdefghijklmnopqrstuvwxyz" x
  | _ => false
def markS (x : Str) : Bool := (decide ((1 : Int) ≤ x.length) && decide ((x.length : Int) ≤ 8)) && x.cps.toList.all fun c => occB "abcdefghijklmnopqrstuvwxyz+-" ⟨#[c]⟩
def isMark : PyData → Bool
  | .str x => markS x
  | _ => false
def isHeard : PyData → Bool
  | .str x => decide (x = "") || markS x
  | _ => false
def asc : List Int → Bool
  | x :: y :: r => decide (x < y) && asc (y :: r)
  | _ => true
theorem asc_zip : ∀ l : List Int, asc l = ((l.zip (l.drop 1)).map fun b => decide (b.1 < b.2)).all id
  | [] => rfl
  | [_] => rfl
  | x :: y :: r => by
    have ih := asc_zip (y :: r)
    show (decide (x < y) && asc (y :: r)) = _
    rw [ih]
    rfl
/-- a check of the first n arguments: they are data, it tells b and changes nothing -/
def spChk (K : PySem.W.Frag) (b : List PyData → Option Bool) (n : Nat) : Sp := fun vs H Q _ => ∃ (F : Hp) (ds : List PyData) (r : Bool), Sees F H ∧ DpAll K F vs ds ∧ b ds = some r ∧ ds.length = n ∧ ∀ F' H', Gr [] F H F' H' → Q (.bl r) H'
def bInt : List PyData → Option Bool
  | [d] => some (isInt d)
  | _ => none
section
variable {P : Program} {w : World} {K : PySem.W.Frag} {mg : Str → Option Value} {base : Heap}
def strZ : PyData → Nat → Prop
  | .str x, n => x.length ≤ n
  | _, _ => True
def toI : PyData → Int
  | .int i => i
  | _ => 0
def isLot : PyData → Bool
  | .list ds => ds.all (isWithin 0 399) && asc (ds.map toI)
  | .tuple ds => ds.all (isWithin 0 399) && asc (ds.map toI)
  | _ => false
theorem within_ints : ∀ {ds : List PyData}, ds.all (isWithin 0 399) = true → ds = (ds.map toI).map .int
  | [], _ => rfl
  | d :: ds, h => by
    rw [List.all_cons, Bool.and_eq_true] at h
    have ih := within_ints h.2
    cases d with
    | int i => exact congrArg (PyData.int i :: ·) ih
    | _ => exact absurd h.1 (by simp [isWithin])
theorem inV_ints (i : Int) (o : List Int) : inV (.int i) (o.map V.int) = decide (i ∈ o) := by
  unfold inV
  rw [List.any_map]
  induction o with
  | nil => rfl
  | cons j o ih =>
    rw [List.any_cons, ih]
    show ((j == i) || _) = _
    by_cases h : j = i
    · subst h; simp
    · have h' : (j == i) = false := by simpa using h
      rw [h', Bool.false_or]
      simp [Ne.symm h]
theorem flat_ints (o : List Int) : (o.map V.int).all flatV = true := by
  rw [List.all_map]
  exact List.all_eq_true.mpr fun _ _ => rfl
def seqZ : PyData → Nat → Prop
  | .list ds, n => ds.length ≤ n
  | .tuple ds, n => ds.length ≤ n
  | _, _ => True
theorem listed_seq {d : PyData} {n : Nat} (h : isListed d = true) (hz : seqZ d n) : ∃ ds, isSeq d ds ∧ ds.length ≤ n ∧ isLot d = (ds.all (isWithin 0 399) && asc (ds.map toI)) := by
  cases d with
  | list ds => exact ⟨ds, .inl rfl, hz, rfl⟩
  | tuple ds => exact ⟨ds, .inr rfl, hz, rfl⟩
  | _ => exact absurd h (by simp [isListed])
theorem lot_no {d : PyData} (h : ¬ isListed d = true) : isLot d = false := by
  cases d with
  | list ds => exact absurd rfl h
  | tuple ds => exact absurd rfl h
  | _ => rfl
def spMark (K : PySem.W.Frag) : Sp := fun vs H Q _ => ∃ (F : Hp) (v : V) (d : PyData), vs = [v] ∧ Sees F H ∧ Dp K F v d ∧ strZ d 1000 ∧ ∀ F' H', Gr [] F H F' H' → Q (.bl (isMark d)) H'
def spHeard (K : PySem.W.Frag) : Sp := fun vs H Q _ => ∃ (F : Hp) (v : V) (d : PyData), vs = [v] ∧ Sees F H ∧ Dp K F v d ∧ strZ d 1000 ∧ ∀ F' H', Gr [] F H F' H' → Q (.bl (isHeard d)) H'
def spLot (K : PySem.W.Frag) : Sp := fun vs H Q _ => ∃ (F : Hp) (v : V) (d : PyData), vs = [v] ∧ Sees F H ∧ Dp K F v d ∧ seqZ d 5000 ∧ ∀ F' H', Gr [] F H F' H' → Q (.bl (isLot d)) H'
def spInside (K : PySem.W.Frag) : Sp := fun vs H Q _ => ∃ (F : Hp) (v u : V) (d e : PyData) (l o : List Int), vs = [v, u] ∧ Sees F H ∧ Dp K F v d ∧ Dp K F u e ∧ isSeq d (l.map .int) ∧ isSeq e (o.map .int) ∧ l.length ≤ 5000 ∧ o.length ≤ 5000 ∧
  ∀ F' H', Gr [] F H F' H' → Q (.bl ((l.map fun i => decide (i ∈ o)).all id)) H'
def spArrow (K : PySem.W.Frag) : Sp := fun vs H Q _ => ∃ (F : Hp) (v : V) (d : PyData) (p : Int) (x : Str) (r : Int), vs = [v] ∧ Sees F H ∧ Dp K F v d ∧ isSeq d [.int p, .str x, .int r] ∧ x.length ≤ 1000 ∧
  ∀ F' H', Gr [] F H F' H' → Q (.bl (isSound (.str x) && (isWithin 0 399 (.int p) && isWithin 0 399 (.int r)))) H'
def spIsInt (K : PySem.W.Frag) : Sp := fun vs H Q _ => ∃ (F : Hp) (v : V) (d : PyData), vs = [v] ∧ Sees F H ∧ Dp K F v d ∧ ∀ F' H', Gr [] F H F' H' → Q (.bl (isInt d)) H'
def spWithin (K : PySem.W.Frag) : Sp := fun vs H Q _ => ∃ (F : Hp) (v : V) (d : PyData) (lo hi : Int), vs = [v, .int lo, .int hi] ∧ Sees F H ∧ Dp K F v d ∧ ∀ F' H', Gr [] F H F' H' → Q (.bl (isWithin lo hi d)) H'
def spListed (K : PySem.W.Frag) : Sp := fun vs H Q _ => ∃ (F : Hp) (v : V) (d : PyData), vs = [v] ∧ Sees F H ∧ Dp K F v d ∧ ∀ F' H', Gr [] F H F' H' → Q (.bl (isListed d)) H'
def spAsc (K : PySem.W.Frag) : Sp := fun vs H Q _ => ∃ (F : Hp) (v : V) (d : PyData) (l : List Int), vs = [v] ∧ Sees F H ∧ Dp K F v d ∧ isSeq d (l.map .int) ∧ l.length ≤ 5000 ∧ ∀ F' H', Gr [] F H F' H' → Q (.bl (asc l)) H'
def spSound (K : PySem.W.Frag) : Sp := fun vs H Q _ => ∃ (F : Hp) (v : V) (d : PyData), vs = [v] ∧ Sees F H ∧ Dp K F v d ∧ strZ d 1000 ∧ ∀ F' H', Gr [] F H F' H' → Q (.bl (isSound d)) H'
theorem ok_is_integer {f : Addr} {fd : FuncData} (F : Fun K "is_integer" "is_integer" s_is_integer f fd) (T : Txt mg)  : FnOk P w K mg base CX0 1 f fd ["value"] (spIsInt K) := by
  refine F.ok sc_is_integer (fun vs H Q E h => ?_) (fun cdv A outer s H vs Q E hr h => ?_)
  · obtain ⟨F0, v, d, rfl, fs, hd, q⟩ := h
    rfl
  · obtain ⟨F0, v, d, rfl, fs, hd, q⟩ := h
    have hu64 := hr.units
    refine ⟨_, (pss_one (ps_ret (pe_and (pe_callB (cr_isi K) (by rfl) T.isinstance bt_isinstance (pa_cons (pv 0) (pa_cons (zty T.int bt_int) pa_nil))) (pe_one (pe_not (pe_callB (cr_isi K) (by rfl) T.isinstance bt_isinstance (pa_cons (pv 0) (pa_cons (zty T.bool bt_bool) pa_nil)))))))), ?_⟩
    have h1 := Dp.sees fs hd
    have q0 := q F0 H (Gr.refl fs)
    cases h1 with
    | int i => exact ⟨_, rfl, isi_dp (.int i) (T := "int") rfl ⟨_, rfl, _, rfl, isi_dp (.int i) (T := "bool") rfl ⟨_, rfl, q0⟩⟩⟩
    | bl b => exact ⟨_, rfl, isi_dp (.bl b) (T := "int") rfl ⟨_, rfl, _, rfl, isi_dp (.bl b) (T := "bool") rfl ⟨_, rfl, q0⟩⟩⟩
    | non => exact ⟨_, rfl, isi_dp .non (T := "int") rfl ⟨_, rfl, q0⟩⟩
    | str x => exact ⟨_, rfl, isi_dp (.str x) (T := "int") rfl ⟨_, rfl, q0⟩⟩
    | lst a b => exact ⟨_, rfl, isi_dp (.lst a b) (T := "int") rfl ⟨_, rfl, q0⟩⟩
    | tup a b => exact ⟨_, rfl, isi_dp (.tup a b) (T := "int") rfl ⟨_, rfl, q0⟩⟩
theorem ok_is_within {f : Addr} {fd : FuncData} (F : Fun K "is_within" "is_within" s_is_within f fd) (T : Txt mg) (C_is_integer : Cal P w K mg base "is_integer" 1 ["value"] [] (spIsInt K)) : FnOk P w K mg base CX0 2 f fd ["value", "least", "most"] (spWithin K) := by
  refine F.ok sc_is_within (fun vs H Q E h => ?_) (fun cdv A outer s H vs Q E hr h => ?_)
  · obtain ⟨F0, v, d, lo, hi, rfl, fs, hd, q⟩ := h
    rfl
  · obtain ⟨F0, v, d, lo, hi, rfl, fs, hd, q⟩ := h
    have hu64 := hr.units
    refine ⟨_, (pss_one (ps_ret (pe_and (pe_cal C_is_integer (hr.mono (by decide)) (pa_cons (pv 0) pa_nil)) (pe_one (pe_chain op_le op_le (pv 1) (pv 0) (pv 2) rfl))))), ?_⟩
    refine ⟨v, rfl, F0, v, d, rfl, fs, hd, fun F1 H1 g => ⟨_, rfl, ?_⟩⟩
    cases hd with
    | int i =>
      refine iteT ⟨_, rfl, _, rfl, _, _, rfl, rfl, _, rfl, ?_⟩
      refine ite2 (fun h1 => ?_) (fun h1 => ?_)
      · refine ⟨_, rfl, _, _, rfl, rfl, ?_⟩
        have z := q F1 H1 g
        rw [show isWithin lo hi (.int i) = decide (i ≤ hi) by simp [isWithin, h1]] at z
        exact z
      · have z := q F1 H1 g
        rw [show isWithin lo hi (.int i) = false by simp [isWithin, h1]] at z
        exact z
    | bl b => exact q F1 H1 g
    | non => exact q F1 H1 g
    | str x => exact q F1 H1 g
    | lst a b => exact q F1 H1 g
    | tup a b => exact q F1 H1 g
theorem ok_is_listed {f : Addr} {fd : FuncData} (F : Fun K "is_listed" "is_listed" s_is_listed f fd) (T : Txt mg)  : FnOk P w K mg base CX0 1 f fd ["value"] (spListed K) := by
  refine F.ok sc_is_listed (fun vs H Q E h => ?_) (fun cdv A outer s H vs Q E hr h => ?_)
  · obtain ⟨F0, v, d, rfl, fs, hd, q⟩ := h
    rfl
  · obtain ⟨F0, v, d, rfl, fs, hd, q⟩ := h
    have hu64 := hr.units
    refine ⟨_, (pss_one (ps_ret (pe_callB (cr_isiT' K) (by rfl) T.isinstance bt_isinstance (pa_cons (pv 0) (pa_cons (pe_tup (pa_cons (zty T.list bt_list) (pa_cons (zty T.tuple bt_tuple) pa_nil))) pa_nil))))), ?_⟩
    refine ⟨v, rfl, by show 2 ≤ sizeLine; decide, fun p hp => ?_⟩
    have g : Gr [] F0 H F0 (upd H p (.tup [.ty "list", .ty "tuple"])) := (Gr.refl fs).newM hp
    have q0 := q _ _ g
    have h1 := Dp.sees g.fh hd
    cases h1 with
    | int i => exact isiT_dp (.int i) upd_same rfl q0
    | bl b => exact isiT_dp (.bl b) upd_same rfl q0
    | non => exact isiT_dp .non upd_same rfl q0
    | str x => exact isiT_dp (.str x) upd_same rfl q0
    | lst a b => exact isiT_dp (.lst a b) upd_same rfl q0
    | tup a b => exact isiT_dp (.tup a b) upd_same rfl q0
theorem ok_is_sound {f : Addr} {fd : FuncData} (F : Fun K "is_sound" "is_sound" s_is_sound f fd) (T : Txt mg)  : FnOk P w K mg base CX0 1 f fd ["value"] (spSound K) := by
  refine F.ok sc_is_sound (fun vs H Q E h => ?_) (fun cdv A outer s H vs Q E hr h => ?_)
  · obtain ⟨F0, v, d, rfl, fs, hd, hx, q⟩ := h
    rfl
  · obtain ⟨F0, v, d, rfl, fs, hd, hx, q⟩ := h
    have hu64 := hr.units
    refine ⟨_, (pss_one (ps_ret (pe_and (pe_callB (cr_isi K) (by rfl) T.isinstance bt_isinstance (pa_cons (pv 0) (pa_cons (zty T.str bt_str) pa_nil))) (pe_and (pe_cmpR op_eq (pe_callB cr_lenS (by rfl) T.len bt_len (pa_cons (pv 0) pa_nil)) pe_int (nomark _)) (pe_one (pe_cmpR op_inS (pv 0) (zc T.c_SIGNS) rfl)))))), ?_⟩
    have h1 := Dp.sees fs hd
    have q0 := q F0 H (Gr.refl fs)
    cases h1 with
    | str x =>
      have lz : x.length ≤ sizeLine := Nat.le_trans hx (by rw [sizeLine_eq]; decide)
      refine ⟨_, rfl, isi_dp (.str x) (T := "str") rfl ⟨_, rfl, _, rfl, .mk ⟨x, rfl, lz, rfl, _, rfl, ?_⟩⟩⟩
      refine ite2 (fun e => ?_) (fun e => ?_)
      · have e2 : (x.length : Int) = 1 := V.int.inj (of_decide_eq_true e)
        rw [show isSound (.str x) = occB "abcdefghijklmnopqrstuvwxyz" x by simp [isSound, e2]] at q0
        exact ⟨_, rfl, .mk ⟨_, _, rfl, rfl, q0⟩⟩
      · have e2 : ¬ (x.length : Int) = 1 := fun z => e (decide_eq_true (congrArg V.int z))
        rw [show isSound (.str x) = false by simp [isSound, e2]] at q0
        exact q0
    | int i => exact ⟨_, rfl, isi_dp (.int i) (T := "str") rfl ⟨_, rfl, q0⟩⟩
    | bl b => exact ⟨_, rfl, isi_dp (.bl b) (T := "str") rfl ⟨_, rfl, q0⟩⟩
    | non => exact ⟨_, rfl, isi_dp .non (T := "str") rfl ⟨_, rfl, q0⟩⟩
    | lst a b => exact ⟨_, rfl, isi_dp (.lst a b) (T := "str") rfl ⟨_, rfl, q0⟩⟩
    | tup a b => exact ⟨_, rfl, isi_dp (.tup a b) (T := "str") rfl ⟨_, rfl, q0⟩⟩
theorem ok_ascends {f : Addr} {fd : FuncData} (F : Fun K "ascends" "ascends" s_ascends f fd) (T : Txt mg)  : FnOk P w K mg base CX0 1 f fd ["value"] (spAsc K) := by
  refine F.ok sc_ascends (fun vs H Q E h => ?_) (fun cdv A outer s H vs Q E hr h => ?_)
  · obtain ⟨F0, v, d, l, rfl, fs, hd, hq, hz, q⟩ := h
    rfl
  · obtain ⟨F0, v, d, l, rfl, fs, hd, hq, hz, q⟩ := h
    have hu64 := hr.units
    refine ⟨_, (pss_one (ps_ret (pe_callB (cr_allD K) (by rfl) T.all bt_all (pa_cons (pe_lc (own := [("one", 1), ("other", 2)]) rfl sc_ascends.nd (pi_zipD K T.zip (pa_cons (pv 0) (pa_cons (pe_slice (sl_LA K) (pv 0) (po_some pe_int) po_none) pa_nil))) (blkOk_by (N := sc_ascendsN) (sc := defScope s_ascends) (by decide +kernel)) (fun _ _ _ _ _ => (zpg (n := 2) K (pgs_cons (zg (i := 1) sc_ascends.nd) (pgs_cons (zg (i := 2) sc_ascends.nd) pgs_nil)))) (fun _ _ _ _ _ => pts_nil) (fun _ _ _ _ _ => (pe_cmpR op_lt (pv 1) (pv 2) (nomark _)))) pa_nil)))), ?_⟩
    refine ⟨v, rfl, v, rfl, 1, rfl, slQ_dp hd hq fs fun r e F1 H1 g t he => ?_⟩
    refine zip_walk (hd.ex g.ff) he t g.fh fun J xs ys G w hG hx hy D hD => ?_
    have e1 : cutD (l.map PyData.int) (some 1) none = (l.drop 1).map .int := by rw [show (1 : Int) = ((1 : Nat) : Int) from rfl, cutD_from, List.map_drop]
    rw [e1, dps_int] at hy
    rw [dps_int] at hx
    subst hx hy
    have hn : (l.zip (l.drop 1)).length = min (l.map PyData.int).length (cutD (l.map PyData.int) (some 1) none).length := by rw [e1]; simp
    refine lc_bools K (bs := l.zip (l.drop 1)) (f := fun b => decide (b.1 < b.2)) (Im := fun b x F => ∃ T, x = .ref T ∧ F T = some (.tup [.int b.1, .int b.2])) (by rw [hn]; exact w) g.fh hG (by rw [List.length_zip]; omega) (fun i b x F' H' H'' hb g1 y => ?_)
      (fun b x F' H' _ g1 im => ?_) hD fun F' H' g1 fD hDc => ?_
    · obtain ⟨T, x1, y1, rfl, hT, rfl, h1, h2⟩ := y
      refine ⟨_, (Gr.refl g1.fh).new hT, T, rfl, ?_⟩
      obtain ⟨i1, i2⟩ := List.getElem?_zip_eq_some.mp hb
      have h1' : (l.map V.int)[i]? = some x1 := h1
      have h2' : ((l.drop 1).map V.int)[i]? = some y1 := h2
      rw [List.getElem?_map, i1] at h1'
      rw [List.getElem?_map, i2] at h2'
      cases h1'
      cases h2'
      exact upd_same
    · obtain ⟨T, rfl, hT⟩ := im
      intro Yes No h0 h1
      refine ⟨T, [.int b.1, .int b.2], rfl, sees_t g1.fh (.inl (.inl hT)), rfl, _, _, rfl, _, _, rfl, rfl, rfl, yesI ⟨_, rfl, _, rfl, _, _, rfl, rfl, ?_⟩⟩
      exact h1 rfl _ F' H' (Gr.refl g1.fh) rfl
    · refine all_new hDc ?_
      have z := q F' H' (g.trans g1)
      rw [asc_zip] at z
      exact z
theorem ok_is_mark {f : Addr} {fd : FuncData} (F : Fun K "is_mark" "is_mark" s_is_mark f fd) (T : Txt mg)  : FnOk P w K mg base CX0 1 f fd ["value"] (spMark K) := by
  refine F.ok sc_is_mark (fun vs H Q E h => ?_) (fun cdv A outer s H vs Q E hr h => ?_)
  · obtain ⟨F0, v, d, rfl, fs, hd, hx, q⟩ := h
    rfl
  · obtain ⟨F0, v, d, rfl, fs, hd, hx, q⟩ := h
    have hu64 := hr.units
    refine ⟨_, (pss_one (ps_ret (pe_and (pe_callB (cr_isi K) (by rfl) T.isinstance bt_isinstance (pa_cons (pv 0) (pa_cons (zty T.str bt_str) pa_nil))) (pe_and (pe_chain op_le op_le pe_int (pe_callB cr_lenS (by rfl) T.len bt_len (pa_cons (pv 0) pa_nil)) (zc T.c_MOST_SIGNS) rfl) (pe_one (pe_callB (cr_allD K) (by rfl) T.all bt_all (pa_cons (pe_lc (own := [("sign", 1)]) rfl sc_is_mark.nd (pi_str (pv 0)) (blkOk_by (N := sc_is_markN) (sc := defScope s_is_mark) (by decide +kernel)) (fun _ _ _ _ _ => (zg (i := 1) sc_is_mark.nd)) (fun _ _ _ _ _ => pts_nil) (fun _ _ _ _ _ => (pe_cmpR op_inS (pv 1) (zc T.c_MARK_SIGNS) rfl))) pa_nil))))))), ?_⟩
    have h1 := Dp.sees fs hd
    have q0 := q F0 H (Gr.refl fs)
    cases h1 with
    | str x =>
      have lz : x.length ≤ sizeLine := Nat.le_trans hx (by rw [sizeLine_eq]; decide)
      refine ⟨_, rfl, isi_dp (.str x) (T := "str") rfl ⟨_, rfl, _, rfl, .mk ⟨x, rfl, lz, _, _, rfl, rfl, _, rfl, ?_⟩⟩⟩
      refine ite2 (fun e1 => ?_) (fun e1 => ?_)
      · have e1 : (1 : Int) ≤ x.length := of_decide_eq_true e1
        refine ⟨_, _, rfl, rfl, _, rfl, ?_⟩
        refine ite2 (fun e2 => ?_) (fun e2 => ?_)
        · have e2 : (x.length : Int) ≤ 8 := of_decide_eq_true e2
          refine ⟨_, rfl, x, rfl, fun D hD => ?_⟩
          refine lc_bools K (bs := x.cps.toList) (f := fun c => occB "abcdefghijklmnopqrstuvwxyz+-" ⟨#[c]⟩) (Im := fun c v F => v = .str ⟨#[c]⟩) (by rw [Array.length_toList]; exact walk_str) fs (fun _ _ => True.intro) (by rw [Array.length_toList]; show x.length ≤ 100000; omega)
            (fun i c v F' H' H'' hc g1 y => ?_) (fun c v F' H' _ g1 im => ?_) hD fun F' H' g1 fD hDc => ?_
          · obtain ⟨rfl, c2, hc2, rfl⟩ := y
            rw [Array.getElem?_toList, hc2] at hc
            cases hc
            exact ⟨F', Gr.refl g1.fh, rfl⟩
          · subst im
            exact turn1 rfl fun Yes h => ⟨_, rfl, .mk ⟨_, _, rfl, rfl, h _ _ _ (Gr.refl g1.fh) rfl⟩⟩
          · have q1 := q F' H' g1
            rw [show isMark (.str x) = (x.cps.toList.map fun c => occB "abcdefghijklmnopqrstuvwxyz+-" ⟨#[c]⟩).all id by simp [isMark, markS, e1, e2, List.all_map]] at q1
            exact all_new hDc q1
        · have e2 : ¬ (x.length : Int) ≤ 8 := fun z => e2 (decide_eq_true z)
          rw [show isMark (.str x) = false by simp [isMark, markS, e2]] at q0
          exact q0
      · have e1 : ¬ (1 : Int) ≤ x.length := fun z => e1 (decide_eq_true z)
        rw [show isMark (.str x) = false by simp [isMark, markS, e1]] at q0
        exact ⟨_, rfl, q0⟩
    | int i => exact ⟨_, rfl, isi_dp (.int i) (T := "str") rfl ⟨_, rfl, q0⟩⟩
    | bl b => exact ⟨_, rfl, isi_dp (.bl b) (T := "str") rfl ⟨_, rfl, q0⟩⟩
    | non => exact ⟨_, rfl, isi_dp .non (T := "str") rfl ⟨_, rfl, q0⟩⟩
    | lst a b => exact ⟨_, rfl, isi_dp (.lst a b) (T := "str") rfl ⟨_, rfl, q0⟩⟩
    | tup a b => exact ⟨_, rfl, isi_dp (.tup a b) (T := "str") rfl ⟨_, rfl, q0⟩⟩
theorem ok_is_heard {f : Addr} {fd : FuncData} (F : Fun K "is_heard" "is_heard" s_is_heard f fd) (T : Txt mg) (C_is_mark : Cal P w K mg base "is_mark" 1 ["value"] [] (spMark K)) : FnOk P w K mg base CX0 2 f fd ["value"] (spHeard K) := by
  refine F.ok sc_is_heard (fun vs H Q E h => ?_) (fun cdv A outer s H vs Q E hr h => ?_)
  · obtain ⟨F0, v, d, rfl, fs, hd, hx, q⟩ := h
    rfl
  · obtain ⟨F0, v, d, rfl, fs, hd, hx, q⟩ := h
    have hu64 := hr.units
    refine ⟨_, (pss_one (ps_ret (pe_and (pe_callB (cr_isi K) (by rfl) T.isinstance bt_isinstance (pa_cons (pv 0) (pa_cons (zty T.str bt_str) pa_nil))) (pe_one (pe_or (pe_cmpR op_eq (pv 0) pe_str (nomark _)) (pe_one (pe_cal C_is_mark (hr.mono (by decide)) (pa_cons (pv 0) pa_nil)))))))), ?_⟩
    have h1 := Dp.sees fs hd
    have q0 := q F0 H (Gr.refl fs)
    cases h1 with
    | str x =>
      refine ⟨_, rfl, isi_dp (.str x) (T := "str") rfl ⟨_, rfl, _, rfl, rfl, _, rfl, ?_⟩⟩
      refine ite2 (fun e => ?_) (fun e => ?_)
      · have e : x = "" := V.str.inj (of_decide_eq_true e)
        rw [show isHeard (.str x) = true by simp [isHeard, e]] at q0
        exact q0
      · have e : ¬ x = "" := fun z => e (decide_eq_true (congrArg V.str z))
        refine ⟨_, rfl, F0, _, .str x, rfl, fs, .str x, hx, fun F1 H1 g => ?_⟩
        have q1 := q F1 H1 g
        rw [show isHeard (.str x) = isMark (.str x) by simp [isHeard, isMark, e]] at q1
        exact q1
    | int i => exact ⟨_, rfl, isi_dp (.int i) (T := "str") rfl ⟨_, rfl, q0⟩⟩
    | bl b => exact ⟨_, rfl, isi_dp (.bl b) (T := "str") rfl ⟨_, rfl, q0⟩⟩
    | non => exact ⟨_, rfl, isi_dp .non (T := "str") rfl ⟨_, rfl, q0⟩⟩
    | lst a b => exact ⟨_, rfl, isi_dp (.lst a b) (T := "str") rfl ⟨_, rfl, q0⟩⟩
    | tup a b => exact ⟨_, rfl, isi_dp (.tup a b) (T := "str") rfl ⟨_, rfl, q0⟩⟩
theorem ok_is_lot {f : Addr} {fd : FuncData} (F : Fun K "is_lot" "is_lot" s_is_lot f fd) (T : Txt mg) (C_is_listed : Cal P w K mg base "is_listed" 1 ["value"] [] (spListed K)) (C_is_within : Cal P w K mg base "is_within" 2 ["value", "least", "most"] [] (spWithin K)) (C_ascends : Cal P w K mg base "ascends" 1 ["value"] [] (spAsc K)) : FnOk P w K mg base CX0 3 f fd ["value"] (spLot K) := by
  refine F.ok sc_is_lot (fun vs H Q E h => ?_) (fun cdv A outer s H vs Q E hr h => ?_)
  · obtain ⟨F0, v, d, rfl, fs, hd, hx, q⟩ := h
    rfl
  · obtain ⟨F0, v, d, rfl, fs, hd, hx, q⟩ := h
    have hu64 := hr.units
    refine ⟨_, (pss_one (ps_ret (pe_and (pe_cal C_is_listed (hr.mono (by decide)) (pa_cons (pv 0) pa_nil)) (pe_and (pe_callB (cr_allD K) (by rfl) T.all bt_all (pa_cons (pe_lc (own := [("place", 1)]) rfl sc_is_lot.nd (zseq K (pv 0)) (blkOk_by (N := sc_is_lotN) (sc := defScope s_is_lot) (by decide +kernel)) (fun _ _ _ _ _ => (zg (i := 1) sc_is_lot.nd)) (fun _ _ _ _ _ => pts_nil) (fun _ _ _ _ _ => (pe_cal C_is_within (hr.mono (by decide)) (pa_cons (pv 1) (pa_cons pe_int (pa_cons (zc T.c_MOST_PLACE) pa_nil)))))) pa_nil)) (pe_one (pe_cal C_ascends (hr.mono (by decide)) (pa_cons (pv 0) pa_nil))))))), ?_⟩
    refine ⟨v, rfl, F0, v, d, rfl, fs, hd, fun F1 H1 g => ⟨_, rfl, ?_⟩⟩
    refine ite2 (fun hl => ?_) (fun hl => ?_)
    · obtain ⟨ds, hq, hz, hL⟩ := listed_seq hl hx
      refine ⟨v, rfl, seq_walk (hd.ex g.ff) hq g.fh fun J xs G w hG hxs hlen D hD => ?_⟩
      refine lc_bools K (bs := ds) (f := isWithin 0 399) (Im := fun e x F => Dp K F x e) (by rw [← hlen]; exact w) g.fh hG (by omega) (fun i e x F' H' H'' he g1 y => ?_) (fun e x F' H' _ g1 im => ?_) hD fun F' H' g1 fD hDc => ?_
      · obtain ⟨rfl, hxi⟩ := y
        obtain ⟨e', h1, h2⟩ := hxs.get hxi
        rw [he] at h1
        cases h1
        exact ⟨F', Gr.refl g1.fh, h2.ex g1.ff⟩
      · exact turn1 rfl fun Yes h => ⟨_, rfl, F', x, e, 0, 399, rfl, g1.fh, im, fun F2 H2 g2 => h _ _ _ g2 rfl⟩
      · refine all_new hDc ⟨_, rfl, ?_⟩
        have g' := g.trans g1
        refine ite2 (fun ea => ?_) (fun ea => ?_)
        · have ea' : ds.all (isWithin 0 399) = true := by rw [List.all_map] at ea; exact ea
          have ei := within_ints ea'
          refine ⟨v, rfl, F', v, d, ds.map toI, rfl, g1.fh, hd.ex g'.ff, (by rw [← ei]; exact hq), (by rw [List.length_map]; exact hz), fun F2 H2 g2 => ?_⟩
          have z := q F2 H2 (g'.trans g2)
          rw [hL, ea', Bool.true_and] at z
          exact z
        · have ea' : ds.all (isWithin 0 399) = false := by rw [List.all_map] at ea; exact Bool.eq_false_iff.mpr ea
          have z := q F' H' g'
          rw [hL, ea', Bool.false_and] at z
          exact z
    · have z := q F1 H1 g
      rw [lot_no hl] at z
      exact z
theorem ok_is_arrow {f : Addr} {fd : FuncData} (F : Fun K "is_arrow" "is_arrow" s_is_arrow f fd) (T : Txt mg) (C_is_listed : Cal P w K mg base "is_listed" 1 ["value"] [] (spListed K)) (C_is_within : Cal P w K mg base "is_within" 2 ["value", "least", "most"] [] (spWithin K)) (C_is_sound : Cal P w K mg base "is_sound" 1 ["value"] [] (spSound K)) : FnOk P w K mg base CX0 3 f fd ["value"] (spArrow K) := by
  refine F.ok sc_is_arrow (fun vs H Q E h => ?_) (fun cdv A outer s H vs Q E hr h => ?_)
  · obtain ⟨F0, v, d, p, x, r, rfl, fs, hd, hq, hx, q⟩ := h
    rfl
  · obtain ⟨F0, v, d, p, x, r, rfl, fs, hd, hq, hx, q⟩ := h
    have hu64 := hr.units
    refine ⟨_, (pss_cons (ps_if (PW.pt (pw_or (pt_not (pt_val (pe_cal C_is_listed (hr.mono (by decide)) (pa_cons (pv 0) pa_nil)))) (pw_or (pt_cmpR op_ne (pe_callB (cr_len K) (by rfl) T.len bt_len (pa_cons (pv 0) pa_nil)) (zc T.c_ARROW) (nomark _)) (pw_or1 (pt_not (pt_val (pe_cal C_is_sound (hr.mono (by decide)) (pa_cons (pe_ix (ix_LT K) (pv 0) pe_int (fun _ _ => rfl)) pa_nil))))))))
        (pss_one (ps_ret pe_bl))
        pss_nil)
      (pss_one (ps_ret (pe_and (pe_cal C_is_within (hr.mono (by decide)) (pa_cons (pe_ix (ix_LT K) (pv 0) pe_int (fun _ _ => rfl)) (pa_cons pe_int (pa_cons (zc T.c_MOST_PLACE) pa_nil)))) (pe_one (pe_cal C_is_within (hr.mono (by decide)) (pa_cons (pe_ix (ix_LT K) (pv 0) pe_int (fun _ _ => rfl)) (pa_cons pe_int (pa_cons (zc T.c_MOST_PLACE) pa_nil))))))))), ?_⟩
    have hl : isListed d = true := by rcases hq with rfl | rfl <;> rfl
    refine ⟨v, rfl, F0, v, d, rfl, fs, hd, fun F1 H1 g1 => ⟨_, rfl, ?_⟩⟩
    rw [hl]
    refine iteF ⟨v, rfl, len_dp (hd.ex g1.ff) hq g1.fh ⟨rfl, _, rfl, ?_⟩⟩
    refine iteF ⟨v, rfl, ix_dp (hd.ex g1.ff) hq g1.fh (e := .str x) rfl fun r1 hr1 => ?_⟩
    refine ⟨F1, r1, .str x, rfl, g1.fh, hr1, hx, fun F2 H2 g2 => ⟨_, rfl, ?_⟩⟩
    have g3 := g1.trans g2
    refine ite2 (fun e => ?_) (fun e => ?_)
    · have e : isSound (.str x) = false := by simpa using e
      have z := q F2 H2 g3
      rw [e, Bool.false_and] at z
      exact z
    · have e : isSound (.str x) = true := by simpa using e
      refine ⟨v, rfl, ix_dp (hd.ex g3.ff) hq g3.fh (e := .int p) rfl fun r2 hr2 => ?_⟩
      refine ⟨F2, r2, .int p, 0, 399, rfl, g2.fh, hr2, fun F4 H4 g4 => ⟨_, rfl, ?_⟩⟩
      have g5 := g3.trans g4
      refine ite2 (fun e2 => ?_) (fun e2 => ?_)
      · refine ⟨v, rfl, ix_dp (hd.ex g5.ff) hq g5.fh (e := .int r) rfl fun r3 hr3 => ?_⟩
        refine ⟨F4, r3, .int r, 0, 399, rfl, g4.fh, hr3, fun F6 H6 g6 => ?_⟩
        have z := q F6 H6 (g5.trans g6)
        rw [e, e2, Bool.true_and, Bool.true_and] at z
        exact z
      · have z := q F4 H4 g5
        rw [e, Bool.eq_false_iff.mpr e2, Bool.true_and, Bool.false_and] at z
        exact z
end
end TW
set_option Elab.async false
set_option linter.all false
set_option maxRecDepth 100000
set_option maxHeartbeats 8000000
/-! Speech -/
namespace TW
open PySem PySem.Spec PyProof.Rows L2 RZ StX
open Evl (Ex)
abbrev Arr := Int × Str × Int
def encA (a : Arr) : PyData := .tuple [.int a.1, .str a.2.1, .int a.2.2]
theorem encA_eqv (a b : Arr) : PyData.eqv (encA a) (encA b) = decide (a = b) := by
  obtain ⟨p, x, r⟩ := a
  obtain ⟨p', x', r'⟩ := b
  simp only [encA, PyData.eqv, PyData.eqvAll, Bool.and_true]
  by_cases h1 : p = p' <;> by_cases h2 : x = x' <;> by_cases h3 : r = r' <;> simp [h1, h2, h3]
theorem encA_shaped (a : Arr) (h : PyData.strOk a.2.1 = true) : SeqAt.shaped (encA a) = true := by
  simp [h, encA, SeqAt.shaped, PyData.canLay0, PyData.canLayAll0, PyData.depth, PyData.depthAll]
theorem encA_alike (a b : Arr) : PySem.W.alike (encA a) (encA b) = true := by simp [encA, PySem.W.alike, PySem.W.alikeAll]
theorem encA_depth (a : Arr) : (encA a).depth ≤ 8 := by simp [encA, PyData.depth, PyData.depthAll]
/-- neighbours in a list without repeats differ -/
theorem neigh : ∀ {l : List Arr}, l.Nodup → ∀ b ∈ l.zip (l.drop 1), ¬ b.1 = b.2
  | [], _, b, h => absurd h (by simp)
  | [_], _, b, h => absurd h (by simp)
  | x :: y :: r, nd, b, h => by
    obtain ⟨h1, h2⟩ := List.nodup_cons.mp nd
    rcases List.mem_cons.mp (show b ∈ (x, y) :: (y :: r).zip r from h) with rfl | h
    · exact fun e => h1 (by show x ∈ y :: r; rw [show x = y from e]; exact List.mem_cons_self)
    · exact neigh h2 b h
/-- a Speech: its arrows, starts, places, sounds -/
structure SpD where
  A : List Arr
  S : List Int
  P : List Int
  Z : List Str
structure SpD.Ok (s : SpD) : Prop where
  asc : s.P.Pairwise (· < ·)
  pl : ∀ k, k ∈ s.P ↔ k ∈ s.S ∨ (∃ a ∈ s.A, a.1 = k) ∨ ∃ a ∈ s.A, a.2.2 = k
  so : ∀ z, z ∈ s.Z ↔ ∃ a ∈ s.A, a.2.1 = z
  nd : s.Z.Nodup
def spF (va vs vp vz vd : V) : List (Str × V) := putF "own_from" vd (putF "sounds" vz (putF "places" vp (putF "starts" vs (putF "arrows" va []))))
/-- at x stands the Speech s -/
structure SpAt (K : PySem.W.Frag) (C : Addr) (F : Hp) (x : Addr) (s : SpD) : Prop where
  ex : ∃ dx va vs vp vz vd, F x = some (.ins C dx (spF va vs vp vz vd)) ∧ Dp K F va (.tuple (s.A.map encA)) ∧ Dp K F vs (.tuple (s.S.map .int)) ∧ Dp K F vp (.tuple (s.P.map .int)) ∧ Dp K F vz (.tuple (s.Z.map .str)) ∧ TupR F vp (s.P.map V.int)
  ok : s.Ok
structure SpC (K : PySem.W.Frag) (C : Addr) : Prop where
  cl : Cls K C
  nA : NoAttr K C "arrows"
  nS : NoAttr K C "starts"
  nP : NoAttr K C "places"
  nZ : NoAttr K C "sounds"
  nO : NoAttr K C "own_from"
theorem SpAt.ex' {K : PySem.W.Frag} {C : Addr} {F F' : Hp} {x : Addr} {s : SpD} (h : SpAt K C F x s) (e : Ex F F') : SpAt K C F' x s := by
  obtain ⟨⟨dx, va, vs, vp, vz, vd, h1, h2, h3, h4, h5, h6⟩, ok⟩ := h
  exact ⟨⟨dx, va, vs, vp, vz, vd, e _ _ h1, h2.ex e, h3.ex e, h4.ex e, h5.ex e, h6.ex e⟩, ok⟩
def okArr (a : Arr) : Bool := isSound (.str a.2.1) && (isWithin 0 399 (.int a.1) && isWithin 0 399 (.int a.2.2))
/-- Speech(arrows, starts), all in order -/
def spSpI (K : PySem.W.Frag) (C : Addr) : Sp := fun vs H Q _ => ∃ (F : Hp) (x dx : Addr) (va vst : V) (da ds : PyData) (A : List Arr) (S : List Int) (e : Arr → PyData), vs = [.ref x, va, vst] ∧ H x = some (.ins C dx []) ∧ F x = none ∧ Sees F H ∧ Dp K F va da ∧ isSeq da (A.map e) ∧ (∀ a, isSeq (e a) [.int a.1, .str a.2.1, .int a.2.2]) ∧ Dp K F vst ds ∧ isSeq ds (S.map .int) ∧
  A.length ≤ 2000 ∧ S.length ≤ 80 ∧ A.all okArr = true ∧ (∀ a ∈ A, a.2.1.length ≤ 1000 ∧ PyData.strOk a.2.1 = true) ∧ A.Nodup ∧ isLot ds = true ∧ S ≠ [] ∧
  ∀ (s : SpD) (F' H' : Hp), s.A.Perm A → s.S = S → Gr [x] F H F' H' → F' x = none → SpAt K C (upd F' x ((H' x).getD (.own 0))) x s → Q .non H'
section
variable {P : Program} {w : World} {K : PySem.W.Frag} {mg : Str → Option Value} {base : Heap}
theorem ok_Speech_init {f C : Addr} {fd : FuncData} (F : Fun K "__init__" "Speech.__init__" s_Speech___init__ f fd) (T : Txt mg) (TS : SpC K C) (C_is_listed : Cal P w K mg base "is_listed" 1 ["value"] [] (spListed K)) (C_is_arrow : Cal P w K mg base "is_arrow" 3 ["value"] [] (spArrow K)) (C_is_lot : Cal P w K mg base "is_lot" 3 ["value"] [] (spLot K)) :
    FnOk P w K mg base CX0 4 f fd ["self", "arrows", "starts"] (spSpI K C) := by
  refine F.ok sc_Speech___init__ (fun vs H Q E h => ?_) (fun cdv A outer s H vs Q E hr h => ?_)
  · obtain ⟨F0, x, dx, va, vst, da, ds, A, S, e, rfl, _⟩ := h
    rfl
  · obtain ⟨F0, x, dx, va, vst, da, ds, AA, S, eA, rfl, hx, fx, fs, ha, hqa, heA, hst, hqs, zA, zS, okA, zN, ndA, lotS, neS, q⟩ := h
    have hu := hu_of hr
    have hu64 := hr.units
    have hu16 := hu16_of hr
    have hu8 := hu8_of hr
    refine ⟨_, (pss_cons (ps_if (PW.pt (pw_or (pt_not (pt_val (pe_cal C_is_listed (hr.mono (by decide)) (pa_cons (pv 1) pa_nil)))) (pw_or (pt_cmpR op_gt (pe_callB (cr_len K) (by rfl) T.len bt_len (pa_cons (pv 1) pa_nil)) (zc T.c_MOST_ARROWS) (nomark _)) (pw_or1 (pt_not (pt_val (pe_callB (cr_allD K) (by rfl) T.all bt_all (pa_cons (pe_lc (own := [("arrow", 3)]) rfl sc_Speech___init__.nd (zseq K (pv 1)) (blkOk_by (N := sc_Speech___init__N) (sc := defScope s_Speech___init__) (by decide +kernel)) (fun _ _ _ _ _ => (zg (i := 3) sc_Speech___init__.nd)) (fun _ _ _ _ _ => pts_nil) (fun _ _ _ _ _ => (pe_cal C_is_arrow (hr.mono (by decide)) (pa_cons (pv 3) pa_nil)))) pa_nil))))))))
        (pss_one ps_never)
        pss_nil)
      (pss_cons (zs (i := 4) sc_Speech___init__.nd (pe_callB (cr_sortedD K hu16) (by rfl) T.sorted bt_sorted (pa_cons (pe_lc (own := [("arrow", 3)]) rfl sc_Speech___init__.nd (zseq K (pv 1)) (blkOk_by (N := sc_Speech___init__N) (sc := defScope s_Speech___init__) (by decide +kernel)) (fun _ _ _ _ _ => (zg (i := 3) sc_Speech___init__.nd)) (fun _ _ _ _ _ => pts_nil) (fun _ _ _ _ _ => (pe_callTy (cr_tuple K) (by rfl) T.tuple bt_tuple (pa_cons (pv 3) pa_nil)))) pa_nil)))
      (pss_cons (ps_if (pt_val (pe_callB (cr_anyD K) (by rfl) T.any bt_any (pa_cons (pe_lc (own := [("one", 5), ("other", 6)]) rfl sc_Speech___init__.nd (pi_zipD K T.zip (pa_cons (pv 4) (pa_cons (pe_slice (sl_LA K) (pv 4) (po_some pe_int) po_none) pa_nil))) (blkOk_by (N := sc_Speech___init__N) (sc := defScope s_Speech___init__) (by decide +kernel)) (fun _ _ _ _ _ => (zpg (n := 2) K (pgs_cons (zg (i := 5) sc_Speech___init__.nd) (pgs_cons (zg (i := 6) sc_Speech___init__.nd) pgs_nil)))) (fun _ _ _ _ _ => pts_nil) (fun _ _ _ _ _ => (pe_cmpR (op_eqDD K hu64) (pv 5) (pv 6) (nomark _)))) pa_nil)))
        (pss_one ps_never)
        pss_nil)
      (pss_cons (ps_if (PW.pt (pw_or (pt_not (pt_val (pe_cal C_is_lot (hr.mono (by decide)) (pa_cons (pv 2) pa_nil)))) (pw_or1 (pt_cmpR op_eq (pe_callB (cr_len K) (by rfl) T.len bt_len (pa_cons (pv 2) pa_nil)) pe_int (nomark _)))))
        (pss_one ps_never)
        pss_nil)
      (pss_cons (ps_fld (pv 0) (pe_callTy (cr_tuple K) (by rfl) T.tuple bt_tuple (pa_cons (pv 4) pa_nil)) rfl)
      (pss_cons (ps_fld (pv 0) (pe_callTy (cr_tuple K) (by rfl) T.tuple bt_tuple (pa_cons (pv 2) pa_nil)) rfl)
      (pss_cons (zs (i := 7) sc_Speech___init__.nd (pe_lst (zstar K (pv 2) (zstar K (pe_lc (own := [("arrow", 3)]) rfl sc_Speech___init__.nd (zseq K (pv 4)) (blkOk_by (N := sc_Speech___init__N) (sc := defScope s_Speech___init__) (by decide +kernel)) (fun _ _ _ _ _ => (zg (i := 3) sc_Speech___init__.nd)) (fun _ _ _ _ _ => pts_nil) (fun _ _ _ _ _ => (pe_ix (ix_LT K) (pv 3) pe_int (fun _ _ => rfl)))) (zstar K (pe_lc (own := [("arrow", 3)]) rfl sc_Speech___init__.nd (zseq K (pv 4)) (blkOk_by (N := sc_Speech___init__N) (sc := defScope s_Speech___init__) (by decide +kernel)) (fun _ _ _ _ _ => (zg (i := 3) sc_Speech___init__.nd)) (fun _ _ _ _ _ => pts_nil) (fun _ _ _ _ _ => (pe_ix (ix_LT K) (pv 3) pe_int (fun _ _ => rfl)))) pa_nil)))))
      (pss_cons (ps_fld (pv 0) (pe_callTy (cr_tuple K) (by rfl) T.tuple bt_tuple (pa_cons (pe_callB (cr_sortedKI w hu8) (by rfl) T.sorted bt_sorted (pa_cons (pe_callTy (cr_setK K w) (by rfl) T.set bt_set (pa_cons (pv 7) pa_nil)) pa_nil)) pa_nil)) rfl)
      (pss_cons (ps_fld (pv 0) (pe_callTy (cr_tuple K) (by rfl) T.tuple bt_tuple (pa_cons (pe_callB (cr_sortedKS w hu8) (by rfl) T.sorted bt_sorted (pa_cons (pe_callTy (cr_setK K w) (by rfl) T.set bt_set (pa_cons (pe_lc (own := [("arrow", 3)]) rfl sc_Speech___init__.nd (zseq K (pv 4)) (blkOk_by (N := sc_Speech___init__N) (sc := defScope s_Speech___init__) (by decide +kernel)) (fun _ _ _ _ _ => (zg (i := 3) sc_Speech___init__.nd)) (fun _ _ _ _ _ => pts_nil) (fun _ _ _ _ _ => (pe_ix (ix_LT K) (pv 3) pe_int (fun _ _ => rfl)))) pa_nil)) pa_nil)) pa_nil)) rfl)
      (pss_cons (ps_fld (pv 0) pe_dnewK rfl)
      (pss_one (ps_for PassesOwn.never rfl (pi_enum rfl T.enumerate (pa_cons (pv 4) pa_nil)) (zpg (n := 2) K (pgs_cons (zg (i := 8) sc_Speech___init__.nd) (pgs_cons (zg (i := 3) sc_Speech___init__.nd) pgs_nil)))
        (pss_one (ps_dput hu (zfld K (pv 0)) (pe_ix (ix_LT K) (pv 3) pe_int (fun _ _ => rfl)) (pe_tup (zstar K (pe_dget2 hu (zfld K (pv 0)) (pe_ix (ix_LT K) (pv 3) pe_int (fun _ _ => rfl)) (pe_tup pa_nil) (m2_of rfl)) (pa_cons (pv 8) pa_nil))) rfl)))))))))))))), ?_⟩
    -- the arrows are in order
    have hl : isListed da = true := by rcases hqa with rfl | rfl <;> rfl
    refine ⟨va, rfl, F0, va, da, rfl, fs, ha, fun F1 H1 g1 => ⟨_, rfl, ?_⟩⟩
    rw [hl]
    refine iteF ⟨va, rfl, len_dp (ha.ex g1.ff) hqa g1.fh ⟨_, _, rfl, rfl, _, rfl, ?_⟩⟩
    refine iteNo (by rw [decide_eq_true_eq, List.length_map]; omega) ⟨va, rfl, seq_walk (ha.ex g1.ff) hqa g1.fh fun J xs G w1 hG hxs hlen D hD => ?_⟩
    refine lc_seqB (bs := AA) (enc := eA) (f := okArr) w1 hxs g1.fh hG (by omega) (fun b y F' H' hb g2 hy => turn1 rfl fun Yes h => ⟨_, rfl, F', y, _, b.1, b.2.1, b.2.2, rfl, g2.fh, hy, heA b, (zN b hb).1, fun F3 H3 g3 => h _ _ _ g3 rfl⟩) hD fun F2 H2 g2 fD hDc => ?_
    refine all_new hDc ⟨_, rfl, ?_⟩
    rw [List.all_map, show AA.all (id ∘ okArr) = true from okA]
    refine iteF ?_
    have gA := g1.trans g2
    clear hG w1 hxs hlen g1 g2 hDc fD
    -- found
    refine ⟨va, rfl, seq_walk (ha.ex gA.ff) hqa gA.fh fun J xs G w1 hG hxs hlen D2 hD2 => ?_⟩
    refine lc_seqM (bs := AA) (enc := eA) (f := encA) w1 hxs gA.fh hG (by omega) (fun b y F' H' hb g2 hy => turn1 rfl fun Yes h => ⟨_, rfl, tuple_dp hy (heA b) g2.fh fun r F3 H3 g3 hr => h _ _ _ g3 hr⟩) hD2 fun acc F3 H3 g3 fD3 hDc hacc => ?_
    refine ⟨Arr, encA, AA, D2, acc, F3, rfl, g3.fh, .inl (.inl hDc), hacc, PySem.W.AllAlike.of encA_alike, PySem.W.Sortable.tuples fun b => ⟨_, _, rfl⟩, fun b _ => encA_depth b, fun ys p hys hp => ?_⟩
    have pmA : (AA.mergeSort (PySem.W.dataLe false encA)).Perm AA := List.mergeSort_perm _ _
    generalize AA.mergeSort (PySem.W.dataLe false encA) = A' at hys pmA
    have gB : Gr [] F0 H (upd F3 p (.lst ys)) (upd H3 p (.lst ys)) := (gA.trans g3).new hp
    have hf : Dp K (upd F3 p (.lst ys)) (.ref p) (.list (A'.map encA)) := .lst (.inl (.inl upd_same)) (hys.ex (Ex.new (g3.fh.dm hp)))
    have lA : A'.length ≤ 2000 := by rw [pmA.length_eq]; exact zA
    have nA : A'.Nodup := pmA.nodup_iff.mpr ndA
    generalize upd F3 p (.lst ys) = F4 at gB hf
    generalize upd H3 p (.lst ys) = H4 at gB
    clear hG w1 hxs hlen g3 hDc hacc hys gA hp
    -- none twice
    refine ⟨_, rfl, _, rfl, 1, rfl, slQ_dp hf (.inl rfl) gB.fh fun r e F5 H5 g5 t he => ?_⟩
    refine zip_walk (hf.ex g5.ff) he t g5.fh fun J xs zs G w1 hG hxs hzs D3 hD3 => ?_
    have e1 : cutD (A'.map encA) (some 1) none = (A'.drop 1).map encA := by rw [show (1 : Int) = ((1 : Nat) : Int) from rfl, cutD_from, List.map_drop]
    rw [e1] at hzs
    have hn : (A'.zip (A'.drop 1)).length = min (A'.map encA).length (cutD (A'.map encA) (some 1) none).length := by rw [e1]; simp
    have w2 : Walk J (A'.zip (A'.drop 1)).length G (YPair (fun i => xs[i]?) (fun i => zs[i]?)) := by rw [hn]; exact w1
    refine lc_bools K (bs := A'.zip (A'.drop 1)) (f := fun b => decide (b.1 = b.2)) w2 g5.fh hG (by rw [List.length_zip]; omega) (fun i b y F' H' H'' hb g6 yy => yPair_dp hxs hzs hb g6 yy) (fun b y F' H' hb g6 im => ?_) hD3 fun F6 H6 g6 fD6 hDc => ?_
    · obtain ⟨T1, x1, y1, rfl, hT1, d1, d2⟩ := im
      have m1 : b.1 ∈ A' := (List.of_mem_zip hb).1
      have m2 : b.2 ∈ A' := List.mem_of_mem_drop (List.of_mem_zip hb).2
      refine turn2 (sees_t g6.fh (.inl (.inl hT1))) rfl fun Yes h => ⟨_, rfl, _, rfl, .mk ⟨_, _, Dp.sees g6.fh d1, Dp.sees g6.fh d2, encA_shaped _ (zN _ (pmA.mem_iff.mp m1)).2, encA_shaped _ (zN _ (pmA.mem_iff.mp m2)).2, ?_⟩⟩
      rw [encA_eqv]
      exact h _ _ _ (Gr.refl g6.fh) rfl
    · refine any_new hDc ⟨_, rfl, ?_⟩
      have no : ((A'.zip (A'.drop 1)).map fun b => decide (b.1 = b.2)).any id = false := by
        rw [List.any_map, List.any_eq_false]
        intro b hb
        simpa using neigh nA b hb
      rw [no]
      refine iteF ?_
      have gC := (gB.trans g5).trans g6
      have hf6 := hf.ex (g5.ff.trans g6.ff)
      clear hG w1 w2 hxs hzs hn e1 he t g5 g6 hDc fD6 gB hf no
      -- the starts are in order
      refine ⟨vst, rfl, F6, vst, ds, rfl, gC.fh, hst.ex gC.ff, by rcases hqs with rfl | rfl <;> (show (S.map PyData.int).length ≤ 5000; rw [List.length_map]; omega), fun F7 H7 g7 => ⟨_, rfl, ?_⟩⟩
      rw [lotS]
      have gD := gC.trans g7
      refine iteF ⟨vst, rfl, len_dp (hst.ex gD.ff) hqs gD.fh ⟨rfl, _, rfl, ?_⟩⟩
      refine iteNo (fun e => neS (by have z := V.int.inj (of_decide_eq_true e); rw [List.length_map] at z; exact List.length_eq_zero_iff.mp (by omega))) ?_
      -- self.arrows = tuple(found); self.starts = tuple(starts)
      refine ⟨_, rfl, tuple_dp (hf6.ex g7.ff) (.inl rfl) gD.fh fun ra F8 H8 g8 hra => ⟨_, rfl, x, C, dx, [], rfl, (gD.trans g8).at hx, TS.cl, TS.nA, by show 0 < 1000; decide, ?_⟩⟩
      have mx : x ∈ [x] := List.mem_singleton.mpr rfl
      have nx : ¬ IsNT (H x) := by rw [hx]; exact fun z => nomatch z
      have t0 : Gr [x] F0 H F8 H8 := (gD.trans g8).mono (fun b hb => nomatch hb)
      have t1 : Gr [x] F0 H F8 (upd H8 x (.ins C dx (putF "arrows" ra []))) := t0.mut (t0.none' fx nx) (.inl mx)
      have c1 : upd H8 x (.ins C dx (putF "arrows" ra [])) x = some (.ins C dx (putF "arrows" ra [])) := upd_same
      generalize upd H8 x (.ins C dx (putF "arrows" ra [])) = H9 at t1 c1 ⊢
      refine ⟨_, rfl, tuple_dp (hst.ex t1.ff) hqs t1.fh fun rs F10 H10 g10 hrs => ⟨_, rfl, x, C, dx, _, rfl, g10.at c1, TS.cl, TS.nS, by show 1 < 1000; decide, ?_⟩⟩
      have t2 := (t1.trans g10).mut (o := .ins C dx (putF "starts" rs (putF "arrows" ra []))) ((t1.trans g10).none' fx nx) (.inl mx)
      have c2 : upd H10 x (.ins C dx (putF "starts" rs (putF "arrows" ra []))) x = some (.ins C dx (putF "starts" rs (putF "arrows" ra []))) := upd_same
      have hra2 := hra.ex g10.ff
      have hf2 := (hf6.ex g7.ff).ex (g8.ff.trans g10.ff)
      generalize upd H10 x (.ins C dx (putF "starts" rs (putF "arrows" ra []))) = H11 at t2 c2 ⊢
      clear gD g8 hra t0 t1 c1 g10 gC hf6 g7
      -- places
      obtain ⟨sa, xst, rfl, hsq, hsx⟩ := dp_seq (hst.ex t2.ff) hqs
      rw [dps_int] at hsx
      subst hsx
      refine ⟨_, rfl, sa, _, rfl, hsq.symm.imp (sees_t t2.fh) (sees_l t2.fh), ?_⟩
      refine ⟨_, rfl, seq_walk hf2 (.inl rfl) t2.fh fun J xs G w1 hG hxs hlen D3 hD3 => ?_⟩
      refine lc_seqM (bs := A') (enc := encA) (f := fun a => .int a.1) w1 hxs t2.fh hG (by omega) (fun b y F' H' hb g hy => turn1 rfl fun Yes h => ⟨_, rfl, ix_dp hy (.inr rfl) g.fh (e := .int b.1) rfl fun r hr => h _ _ _ (Gr.refl g.fh) hr⟩) hD3 fun acc F12 H12 g12 fD hDc hacc => ?_
      refine ⟨D3, _, rfl, .inr (.inl (.inl hDc)), ?_⟩
      refine ⟨_, rfl, seq_walk (hf2.ex g12.ff) (.inl rfl) g12.fh fun J xs G w1 hG hxs hlen D4 hD4 => ?_⟩
      refine lc_seqM (bs := A') (enc := encA) (f := fun a => .int a.2.2) w1 hxs g12.fh hG (by omega) (fun b y F' H' hb g hy => turn1 rfl fun Yes h => ⟨_, rfl, ix_dp hy (.inr rfl) g.fh (e := .int b.2.2) rfl fun r hr => h _ _ _ (Gr.refl g.fh) hr⟩) hD4 fun acc2 F13 H13 g13 fD4 hDc4 hacc2 => ?_
      rw [show (A'.map fun a : Arr => PyData.int a.1) = (A'.map fun a => a.1).map .int by rw [List.map_map]; rfl, dps_int] at hacc
      rw [show (A'.map fun a : Arr => PyData.int a.2.2) = (A'.map fun a => a.2.2).map .int by rw [List.map_map]; rfl, dps_int] at hacc2
      refine ⟨D4, _, rfl, .inr (.inl (.inl hDc4)), ?_⟩
      subst hacc hacc2
      have eL : S.map V.int ++ ((A'.map fun a => a.1).map V.int ++ ((A'.map fun a => a.2.2).map V.int ++ [])) = (S ++ (A'.map (fun a => a.1) ++ A'.map fun a => a.2.2)).map V.int := by simp
      have lL : (S ++ (A'.map (fun a => a.1) ++ A'.map fun a => a.2.2)).length ≤ 4085 := by simp; omega
      have mL : ∀ k, k ∈ S ++ (A'.map (fun a => a.1) ++ A'.map fun a => a.2.2) ↔ k ∈ S ∨ (∃ a ∈ A', a.1 = k) ∨ ∃ a ∈ A', a.2.2 = k := fun k => by simp
      dsimp only [tNil]
      rw [eL]
      generalize S ++ (A'.map (fun a => a.1) ++ A'.map fun a => a.2.2) = L at lL mL
      refine ⟨by rw [List.length_map, sizeLine_eq]; omega, fun pL hpL => ?_⟩
      have g14 : Gr [] F10 H11 F13 (upd H13 pL (.lst (L.map V.int))) := (g12.trans g13).newM hpL
      have hL : upd H13 pL (.lst (L.map V.int)) pL = some (.lst (L.map V.int)) := upd_same
      generalize upd H13 pL (.lst (L.map V.int)) = H14 at g14 hL ⊢
      refine ⟨_, rfl, pL, L.map Sum.inl, rfl, .inl (by rw [keys_int]; exact .inl (.inl hL)), by rw [List.length_map]; omega, fun q1 n hq1 hn _ => ⟨q1, L, n, rfl, upd_same, fun ns p2 nasc nmem nlen hp2 => .mk ⟨p2, _, rfl, .inl ⟨.inl (.inl upd_same), fun l1 hl1 => ?_⟩⟩⟩⟩
      have g15 := ((g14.newM (o := SKO w q1 (L.map Sum.inl) n) hq1).newM (o := .lst (ns.map V.int)) hp2).new (o := .tup (ns.map V.int)) hl1
      have hP : Dp K (upd F13 l1 (.tup (ns.map V.int))) (.ref l1) (.tuple (ns.map .int)) := .tup (.inl (.inl upd_same)) (dps_int.mpr rfl)
      have hT : TupR (upd F13 l1 (.tup (ns.map V.int))) (.ref l1) (ns.map V.int) := ⟨l1, rfl, upd_same⟩
      refine ⟨_, rfl, x, C, dx, _, rfl, g15.at c2, TS.cl, TS.nP, by show 2 < 1000; decide, ?_⟩
      have t3 := (t2.trans g15).mut (o := .ins C dx (putF "places" (.ref l1) (putF "starts" rs (putF "arrows" ra [])))) ((t2.trans g15).none' fx nx) (.inl mx)
      have hra3 := hra2.ex g15.ff
      have hrs3 := hrs.ex g15.ff
      have hf3 := hf2.ex g15.ff
      have c3 : upd (upd (upd (upd H14 q1 (SKO w q1 (L.map Sum.inl) n)) p2 (.lst (ns.map V.int))) l1 (.tup (ns.map V.int))) x (.ins C dx (putF "places" (.ref l1) (putF "starts" rs (putF "arrows" ra [])))) x = some (.ins C dx (putF "places" (.ref l1) (putF "starts" rs (putF "arrows" ra [])))) := upd_same
      generalize upd (upd (upd (upd H14 q1 (SKO w q1 (L.map Sum.inl) n)) p2 (.lst (ns.map V.int))) l1 (.tup (ns.map V.int))) x (.ins C dx (putF "places" (.ref l1) (putF "starts" rs (putF "arrows" ra [])))) = H16 at t3 c3 ⊢
      generalize upd F13 l1 (.tup (ns.map V.int)) = F16 at t3 hra3 hrs3 hf3 hP hT
      clear g15 g14 g12 g13 hG w1 hxs hlen hDc hDc4 hL hl1 hp2 hq1 hpL c2 t2 hra2 hrs hf2 hsq
      -- sounds
      refine ⟨_, rfl, seq_walk hf3 (.inl rfl) t3.fh fun J xs G w1 hG hxs hlen D5 hD5 => ?_⟩
      refine lc_seqM (bs := A') (enc := encA) (f := fun a => .str a.2.1) w1 hxs t3.fh hG (by omega) (fun b y F' H' hb g hy => turn1 rfl fun Yes h => ⟨_, rfl, ix_dp hy (.inr rfl) g.fh (e := .str b.2.1) rfl fun r hr => h _ _ _ (Gr.refl g.fh) hr⟩) hD5 fun acc F17 H17 g17 fD5 hDc5 hacc => ?_
      rw [show (A'.map fun a : Arr => PyData.str a.2.1) = (A'.map fun a => a.2.1).map .str by rw [List.map_map]; rfl, dps_str] at hacc
      subst hacc
      refine ⟨D5, (A'.map fun a => a.2.1).map Sum.inr, rfl, .inl (by rw [keys_str]; exact .inl (.inl hDc5)), by simp; omega, fun q2 n2 hq2 hn2 _ => ⟨q2, A'.map fun a => a.2.1, n2, rfl, upd_same, fun zs p3 zasc znd zmem zlen hp3 => .mk ⟨p3, _, rfl, .inl ⟨.inl (.inl upd_same), fun l2 hl2 => ?_⟩⟩⟩⟩
      have g18 := ((g17.newM (o := SKO w q2 ((A'.map fun a => a.2.1).map Sum.inr) n2) hq2).newM (o := .lst (zs.map V.str)) hp3).new (o := .tup (zs.map V.str)) hl2
      have hZ : Dp K (upd F17 l2 (.tup (zs.map V.str))) (.ref l2) (.tuple (zs.map .str)) := .tup (.inl (.inl upd_same)) (dps_str.mpr rfl)
      refine ⟨_, rfl, x, C, dx, _, rfl, g18.at c3, TS.cl, TS.nZ, by show 3 < 1000; decide, ?_⟩
      have t4 := (t3.trans g18).mut (o := .ins C dx (putF "sounds" (.ref l2) (putF "places" (.ref l1) (putF "starts" rs (putF "arrows" ra []))))) ((t3.trans g18).none' fx nx) (.inl mx)
      have hra4 := hra3.ex g18.ff
      have hrs4 := hrs3.ex g18.ff
      have hf4 := hf3.ex g18.ff
      have hP4 := hP.ex g18.ff
      have hT4 := hT.ex g18.ff
      -- own_from
      refine fun d hd => ⟨_, rfl, x, C, dx, _, rfl, by rw [upd_ne (ne_of_none upd_same hd)]; exact upd_same, TS.cl, TS.nO, by show 4 < 1000; decide, ?_⟩
      have t5 : Gr [x] F0 H _ _ := (t4.newM (o := .dK []) hd).mut (p := x) (o := .ins C dx (putF "own_from" (.ref d) (putF "sounds" (.ref l2) (putF "places" (.ref l1) (putF "starts" rs (putF "arrows" ra [])))))) (t4.none' fx nx) (.inl mx)
      have nxd : x ≠ d := ne_of_none upd_same hd
      have c5 : upd (upd (upd (upd (upd (upd H17 q2 (SKO w q2 ((A'.map fun a => a.2.1).map Sum.inr) n2)) p3 (.lst (zs.map V.str))) l2 (.tup (zs.map V.str))) x (.ins C dx (putF "sounds" (.ref l2) (putF "places" (.ref l1) (putF "starts" rs (putF "arrows" ra [])))))) d (.dK [])) x (.ins C dx (putF "own_from" (.ref d) (putF "sounds" (.ref l2) (putF "places" (.ref l1) (putF "starts" rs (putF "arrows" ra [])))))) x = some (.ins C dx (putF "own_from" (.ref d) (putF "sounds" (.ref l2) (putF "places" (.ref l1) (putF "starts" rs (putF "arrows" ra [])))))) := upd_same
      have d5 : upd (upd (upd (upd (upd (upd H17 q2 (SKO w q2 ((A'.map fun a => a.2.1).map Sum.inr) n2)) p3 (.lst (zs.map V.str))) l2 (.tup (zs.map V.str))) x (.ins C dx (putF "sounds" (.ref l2) (putF "places" (.ref l1) (putF "starts" rs (putF "arrows" ra [])))))) d (.dK [])) x (.ins C dx (putF "own_from" (.ref d) (putF "sounds" (.ref l2) (putF "places" (.ref l1) (putF "starts" rs (putF "arrows" ra [])))))) d = some (.dK []) := by rw [upd_ne nxd.symm, upd_same]
      have fd5 : upd F17 l2 (.tup (zs.map V.str)) d = none := t4.fh.dm hd
      have nd0 : H d = none := t4.dm _ hd
      generalize upd (upd (upd (upd (upd (upd H17 q2 (SKO w q2 ((A'.map fun a => a.2.1).map Sum.inr) n2)) p3 (.lst (zs.map V.str))) l2 (.tup (zs.map V.str))) x (.ins C dx (putF "sounds" (.ref l2) (putF "places" (.ref l1) (putF "starts" rs (putF "arrows" ra [])))))) d (.dK [])) x (.ins C dx (putF "own_from" (.ref d) (putF "sounds" (.ref l2) (putF "places" (.ref l1) (putF "starts" rs (putF "arrows" ra [])))))) = H19 at t5 c5 d5 ⊢
      have c5 : H19 x = some (.ins C dx (spF ra rs (.ref l1) (.ref l2) (.ref d))) := c5
      generalize upd F17 l2 (.tup (zs.map V.str)) = F19 at t5 hra4 hrs4 hf4 hP4 hT4 hZ fd5
      clear t4 g18 g17 t3 hra3 hrs3 hf3 hP hT hD5 hDc5 hl2 hp3 hq2 hd c3 hG w1 hxs hlen
      obtain ⟨pf, xf, ep, hsf, hxf⟩ := dp_list hf4
      cases ep
      refine ⟨_, rfl, p, xf, rfl, sees_l t5.fh hsf, for_it walk_enum (fun i σ' H' => ∃ (o3 o8 : Option V) (F' : Hp) (kvs : List (Key × V)), σ' = [some (.ref x), some va, some (.ref sa), o3, some (.ref p), none, none, some (.ref pL), o8] ∧ Gr [d] F19 H19 F' H' ∧ H' d = some (.dK kvs) ∧ F' d = none ∧
        kvs.length ≤ i ∧ ∀ k v, valV kvs k = some v → ∃ es, Dp K F' v (.tuple es) ∧ es.length ≤ i) ⟨none, none, F19, [], rfl, Gr.refl t5.fh, d5, fd5, Nat.le_refl _, fun k v e => nomatch e⟩ (fun i σ' H' _ ⟨_, _, F', _, _, g, _⟩ => sees_l g.fh (Evl.ex_l g.ff hsf)) ?_ ?_⟩
      · rintro i y σ' H' H'' hi ⟨o3, o8, F', kvs, rfl, g, hd', fd', hk, hv⟩ ⟨T1, x1, y1, rfl, hT1, rfl, h1, h2⟩
        cases h1
        have h2 : xf[i]? = some y1 := h2
        obtain ⟨dd, k1, k2⟩ := hxf.get h2
        rw [List.getElem?_map] at k1
        obtain ⟨a1, ka, rfl⟩ := Option.map_eq_some_iff.mp k1
        have hi' : i < 2000 := by rw [hxf.length, List.length_map] at hi; omega
        have ga := g.new (o := .tup [.int (i : Nat), y1]) hT1
        have hda : upd H' T1 (.tup [.int (i : Nat), y1]) d = some (.dK kvs) := by rw [upd_ne (ne_of_none hd' hT1)]; exact hd'
        have fda : upd F' T1 (.tup [.int (i : Nat), y1]) d = none := by rw [upd_ne (ne_of_none hd' hT1)]; exact fd'
        have hva : ∀ k v, valV kvs k = some v → ∃ es, Dp K (upd F' T1 (.tup [.int (i : Nat), y1])) v (.tuple es) ∧ es.length ≤ i := fun k v e => by
          obtain ⟨es, z1, z2⟩ := hv k v e
          exact ⟨es, z1.ex (Ex.new (g.fh.dm hT1)), z2⟩
        have hya := k2.ex ga.ff
        have hTa : SqT K (upd H' T1 (.tup [.int (i : Nat), y1])) T1 [.int (i : Nat), y1] := .inl (.inl upd_same)
        generalize upd H' T1 (.tup [.int (i : Nat), y1]) = Ha at ga hda hTa ⊢
        generalize upd F' T1 (.tup [.int (i : Nat), y1]) = Fa at ga fda hva hya
        have hxa : Ha x = some (.ins C dx (spF ra rs (.ref l1) (.ref l2) (.ref d))) := ga.hh x _ (fun z => nxd (List.mem_singleton.mp z)) c5
        refine ⟨T1, _, rfl, hTa, rfl, _, _, rfl, _, _, rfl, rfl, ?_⟩
        have lk : (spF ra rs (.ref l1) (.ref l2) (.ref d)).lookup ("own_from" : Str) = some (.ref d) := by unfold spF; rw [lookup_putF, if_pos rfl]
        refine ⟨_, rfl, x, C, dx, _, _, rfl, hxa, TS.cl, TS.nO, lk, d, rfl, .inl ⟨kvs, .inl hda⟩, ?_⟩
        refine ⟨_, rfl, ix_dp hya (.inr rfl) ga.fh (e := .int a1.1) rfl fun r hr => ?_⟩
        rw [dp_int] at hr
        subst hr
        refine ⟨by decide, fun t0 ht0 => ⟨_, DGet.k (k := Sum.inl a1.1) (by rw [upd_ne (ne_of_none hda ht0)]; exact hda), ?_⟩⟩
        have gb := ga.new (o := .tup []) ht0
        have hdb : upd Ha t0 (.tup []) d = some (.dK kvs) := by rw [upd_ne (ne_of_none hda ht0)]; exact hda
        have fdb : upd Fa t0 (.tup []) d = none := by rw [upd_ne (ne_of_none hda ht0)]; exact fda
        have hxb : upd Ha t0 (.tup []) x = some (.ins C dx (spF ra rs (.ref l1) (.ref l2) (.ref d))) := by rw [upd_ne (ne_of_none hxa ht0)]; exact hxa
        have hvb : ∀ k v, valV kvs k = some v → ∃ es, Dp K (upd Fa t0 (.tup [])) v (.tuple es) ∧ es.length ≤ i := fun k v e => by
          obtain ⟨es, z1, z2⟩ := hva k v e
          exact ⟨es, z1.ex (Ex.new (ga.fh.dm ht0)), z2⟩
        have hyb := hya.ex (Ex.new (o := .tup []) (ga.fh.dm ht0))
        have ho : ∃ es, Dp K (upd Fa t0 (.tup [])) ((valV kvs (Sum.inl a1.1)).getD (.ref t0)) (.tuple es) ∧ es.length ≤ i := by
          cases e : valV kvs (Sum.inl a1.1) with
          | some v => exact hvb _ v e
          | none => exact ⟨[], .tup (.inl (.inl upd_same)) .nil, Nat.zero_le _⟩
        generalize (valV kvs (Sum.inl a1.1)).getD (.ref t0) = vo at ho
        generalize upd Ha t0 (.tup []) = Hb at gb hdb hxb ⊢
        generalize upd Fa t0 (.tup []) = Fb at gb fdb hvb hyb ho
        obtain ⟨es, ho1, ho2⟩ := ho
        obtain ⟨po, xo, rfl, hso, hxo⟩ := dp_tup ho1
        have lo : xo.length ≤ i := by rw [hxo.length]; exact ho2
        refine ⟨po, xo, rfl, .inl (sees_t gb.fh hso), _, rfl, ?_⟩
        refine ⟨by rw [sizeLine_eq]; simp; omega, fun t1 ht1 => ?_⟩
        have gc := gb.new (o := .tup (xo ++ [.int (i : Nat)])) ht1
        have hdc : upd Hb t1 (.tup (xo ++ [.int (i : Nat)])) d = some (.dK kvs) := by rw [upd_ne (ne_of_none hdb ht1)]; exact hdb
        have fdc : upd Fb t1 (.tup (xo ++ [.int (i : Nat)])) d = none := by rw [upd_ne (ne_of_none hdb ht1)]; exact fdb
        refine ⟨_, rfl, x, C, dx, _, _, rfl, by rw [upd_ne (ne_of_none hxb ht1)]; exact hxb, TS.cl, TS.nO, lk, ?_⟩
        refine ⟨_, rfl, ix_dp (hyb.ex (Ex.new (gb.fh.dm ht1))) (.inr rfl) gc.fh (e := .int a1.1) rfl fun r hr => ?_⟩
        rw [dp_int] at hr
        subst hr
        refine ⟨d, _, rfl, DPut.k (k := Sum.inl a1.1) hdc (by rw [sizeLine_eq]; omega), some y1, some (.int (i : Nat)), _, _, rfl, gc.mut fdc (.inl (List.mem_singleton.mpr rfl)), upd_same, fdc, ?_, fun k v e => ?_⟩
        · have := length_putK kvs (Sum.inl a1.1) (.ref t1)
          omega
        · rw [valV_put] at e
          split at e
          · cases e
            exact ⟨es ++ [.int (i : Nat)], .tup (.inl (.inl upd_same)) ((hxo.append (.cons (.int _) .nil)).ex (Ex.new (gb.fh.dm ht1))), by simp; omega⟩
          · obtain ⟨es', z1, z2⟩ := hvb k v e
            exact ⟨es', z1.ex (Ex.new (gb.fh.dm ht1)), by omega⟩
      · rintro σ' H' ⟨o3, o8, F', kvs, rfl, g, hd', fd', hk, hv⟩
        have hx' : H' x = some (.ins C dx (spF ra rs (.ref l1) (.ref l2) (.ref d))) := g.hh x _ (fun z => nxd (List.mem_singleton.mp z)) c5
        have tt := t5.trans g (fun b hb => .inr (by rw [List.mem_singleton.mp hb]; exact nd0))
        refine q ⟨A', S, ns, zs⟩ F' H' pmA rfl tt (tt.none' fx nx) ?_
        have fx' := tt.none' fx nx
        rw [hx']
        have e' : Ex F19 (upd F' x (.ins C dx (spF ra rs (.ref l1) (.ref l2) (.ref d)))) := g.ff.trans (Ex.new fx')
        exact ⟨⟨dx, ra, rs, .ref l1, .ref l2, .ref d, upd_same, hra4.ex e', hrs4.ex e', hP4.ex e', hZ.ex e', hT4.ex e'⟩, nasc, fun k => (nmem k).trans (mL k), fun z => by rw [zmem]; simp, znd⟩
end
end TW
set_option Elab.async false
set_option linter.all false
set_option maxRecDepth 100000
set_option maxHeartbeats 4000000
/-! sorted(v), v a list or a tuple of data -/
namespace TW
open PySem PySem.Spec PyProof.Rows L2 RZ StX PySem.W
open Evl (Ex)
section
variable {prog : Program} {w : World} {A : Around} {E : Value → Shared → Prop} {s : Shared}
theorem collect_tupV {l : Addr} {vs : List Value} {Q : List Value → Shared → Prop} (hl : s.heap.IsTuple l vs.toArray)
    (h : Q vs { s with heap := (s.heap.push (seqObj "list" #[] 0)).update s.heap.objs.size (Obj.mapSeq (· ++ vs.toArray)) }) (hsz : vs.length ≤ sizeLine) :
    wpAny (model prog w) A (collect (.ref l)) Q E s := by
  obtain ⟨o, ho, hc, n, hd⟩ := id hl
  unfold collect
  refine wpAny_bind (wpAny_runValue (codeAny_builtin entry_proto_collect' ?_))
  show wpAny _ _ (do again (.builtin "list.__iadd__" ⟨[← newList [], .ref l], []⟩)) _ _ s
  refine wpAny_bind (wpAny_newList (wpAny_pure ⟨Code.quiet_builtin _ (by decide +kernel), codeAny_builtin entry_list_iadd' ?_⟩))
  show wpAny _ _ (Builtin.List.listExtendWith (.ref s.heap.objs.size) (.ref l) (.ref s.heap.objs.size)) _ _ { s with heap := s.heap.push (seqObj "list" #[] 0) }
  unfold Builtin.List.listExtendWith
  have ho' : (s.heap.push (seqObj "list" #[] 0)).get? l = some o := Heap.get?_push_of_some _ ho
  refine wpAny_bind (wpAny_typeOf (T := "tuple") ⟨o, ho', hc⟩ ?_)
  have ht : (Value.type "tuple" == Value.type "tuple") = true := by rfl
  rw [if_pos (by rw [ht]; simp)]
  refine wpAny_bind (listItems_at ho' hd ?_)
  refine wpAny_bind (listItems_at (xs := #[]) (n := 0) (Heap.get?_push_size _ rfl) rfl ?_)
  rw [if_neg (by simp)]
  refine wpAny_bind (listUpdate_at (xs := #[]) (n := 0) (Heap.get?_push_size _ rfl) rfl ?_ (Nat.zero_le _) (by show (#[] ++ vs.toArray).size ≤ sizeLine + 1; simp only [Array.size_append, List.size_toArray, List.length_nil]; omega))
  refine wpAny_pure ?_
  show wpAny (model prog w) A (do
      let o ← load s.heap.objs.size
      match o.data with
      | .seq xs _ => pure xs.toList
      | _ => unsupported "internal:collect") Q E { s with heap := (s.heap.push (seqObj "list" #[] 0)).update s.heap.objs.size (Obj.mapSeq (· ++ vs.toArray)) }
  refine wpAny_bind (wpAny_load (get?_update_seq (Heap.get?_push_size _ rfl) _) ?_)
  show wpAny _ _ (pure ((#[] : Array Value) ++ vs.toArray).toList) Q E _
  rw [show ((#[] : Array Value) ++ vs.toArray).toList = vs by simp]
  exact wpAny_pure h
theorem sorted_tupV {l : Addr} {vs : List Value} {Q : Value → Shared → Prop} (hl : s.heap.IsTuple l vs.toArray) (hL : vs.length ≤ sizeLine)
    (body : ∀ E' : Value → Shared → Prop, wpAny (model prog w) A.in1.in1 (Builtin.«list.sort» ⟨[.ref (s.heap.objs.size + 1)], []⟩) (fun f s' => f = .done (.ret .none) ∧ Q (.ref (s.heap.objs.size + 1)) s') E' { s with heap := copyHeap s.heap vs }) :
    wpAny (model prog w) A (call (.builtin "sorted") [.ref l]) Q E s := by
  refine call_function_entry_kw (kw := []) kind_sorted plain_sorted entry_sorted (args_sorted1 _) ?_
  unfold Builtin.«sorted»
  refine wpAny_bind (m := checkCount "sorted" 1 1 _) (wpAny_pure ?_)
  refine wpAny_bind (collect_tupV hl ?_ hL)
  refine wpAny_bind (wpAny_newList ?_ hL)
  have hsz : ((s.heap.push (seqObj "list" #[] 0)).update s.heap.objs.size (Obj.mapSeq (· ++ vs.toArray))).objs.size = s.heap.objs.size + 1 := by
    rw [Heap.size_update, size_push']
  show wpAny _ _ _ _ _ { s with heap := copyHeap s.heap vs }
  rw [hsz]
  refine wpAny_bind (wpAny_holding (wpAny_call_entry_kw (kw := []) PyProof.Rows.slot_list_sort ⟨_, copyHeap_at s.heap vs, rfl⟩ PyProof.Rows.entry_list_sort ?body (args_list_sort _)))
  case body =>
    show wpAny (model prog w) A.in1.in1 (Builtin.«list.sort» ⟨[.ref (s.heap.objs.size + 1)], []⟩) _ _ _
    refine wpAny_mono (body _) (fun f s' hf => ?_) fun _ _ e => e
    obtain ⟨rfl, hq⟩ := hf
    exact ⟨_, rfl, wpAny_pure ⟨_, rfl, hq⟩⟩
theorem sorted_dataT {β : Type} {vs : List Value} {bs : List β} {enc : β → PyData} {R : Value → β → Prop} {l : Addr} {Q : Value → Shared → Prop} (hl : s.heap.IsTuple l vs.toArray) (e : EachIs R vs bs) (er : EachIs (fun v b => ∃ as, Reads s.heap v (enc b) as) vs bs) (hal : AllAlike (bs.map enc)) (hk : Sortable (bs.map enc)) (hL : bs.length ≤ sizeLine)
    (hu : ∀ b, b ∈ bs → A.units + 2 + (enc b).depth < cLine) (h : ∀ out, out.length = bs.length → EachIs R out (bs.mergeSort (dataLe false enc)) → Q (.ref (s.heap.objs.size + 1)) { s with heap := sortedAll s.heap vs (List.toArray out) }) :
    wpAny (model prog w) A (call (.builtin "sorted") [.ref l]) Q E s := by
  have er' : EachIs (fun v b => ∃ as, Reads (sortingHeap (copyHeap s.heap vs) (s.heap.objs.size + 1) vs) v (enc b) as) vs bs := er.mono fun _ _ ⟨as, r⟩ => ⟨as, PyProof.Rows.Reads.keeps (fun _ _ => sorting_copy_old) r⟩
  have hLv : vs.length ≤ sizeLine := by rw [e.length]; exact hL
  refine sorted_tupV hl hLv fun E' => list_sort_vals (s := { s with heap := copyHeap s.heap vs }) (copyHeap_at s.heap vs) (SortsAt.data (s := { s with heap := sortingHeap (copyHeap s.heap vs) (s.heap.objs.size + 1) vs }) (each_map (R := fun v d => ∃ as, Reads (sortingHeap (copyHeap s.heap vs) (s.heap.objs.size + 1) vs) v d as) enc er') hal hk (bound_map hu)) hLv ⟨rfl, ?_⟩
  exact h _ (by rw [sortVals_length false rfl]; exact e.length) (sortVals_data false e er' hal)
end
/-- sorted(v), v a list or a tuple of data that can be ordered -/
def rSortedQ (K : PySem.W.Frag) : List V → Hp → VK → Prop := fun vs H Q => ∃ (β : Type) (enc : β → PyData) (bs : List β) (a : Addr) (xs : List V) (F : Hp), vs = [.ref a] ∧ Sees F H ∧ (SqL K H a xs ∨ SqT K H a xs) ∧ DpAll K F xs (bs.map enc) ∧ AllAlike (bs.map enc) ∧ Sortable (bs.map enc) ∧
  (∀ b ∈ bs, (enc b).depth ≤ 8) ∧ ∀ (ys : List V) p, DpAll K F ys ((bs.mergeSort (dataLe false enc)).map enc) → H p = none → Q (.ref p) (upd H p (.lst ys))
variable {X : Cx}
theorem cr_sortedQ (K : PySem.W.Frag) (hu : X.A.units + 16 < cLine) (hK : X.K = K := by rfl) : CallR X (.builtin "sorted") (rSortedQ K) := by
  subst hK
  intro pins s σ H vs us Q I r h
  obtain ⟨β, enc, bs, a, xs, F, rfl, hse, hs | hs, hd, hal, hso, hdep, q⟩ := h
  · exact cr_sortedD X.K hu rfl pins s σ H _ us Q I r ⟨β, enc, bs, a, xs, F, rfl, hse, hs, hd, hal, hso, hdep, q⟩
  rw [Vals.ref1 r]
  obtain ⟨its, rv, pl, hz⟩ := I.tuple hs
  have e1 : EachIs (fun u b => ∃ v, L2.RelV v u ∧ Dp X.K F v (enc b)) its bs := each_dp hd rv
  have e2 : EachIs (fun v b => ∃ as, Reads s.heap v (enc b) as) its bs := e1.mono fun u b ⟨v, r, d⟩ => Dp.reads I (enc b) v u (Dp.sees hse d) r
  refine sorted_dataT pl e1 e2 hal hso (by rw [← e1.length, ← rv.length]; exact hz) (fun b hb => by have := hdep b hb; omega) fun out ho he => ?_
  obtain ⟨ys, hv, hy⟩ := dpAll_map he
  obtain ⟨ep, he'⟩ := PyProof.Rows.sortedAll_at s.heap its out.toArray
  have hlen : ys.length ≤ sizeLine := by rw [hv.length, ho, ← e1.length, ← rv.length]; exact hz
  exact ⟨.ref _, upd H (s.heap.objs.size + 1) (.lst ys), I.laid (t' := s.toks) (fun _ _ => PyProof.Rows.sortedAll_old) (Nat.le_succ _) ⟨hlen, out, ep, hv, he'⟩, rfl, q ys _ hy (I.hok.fresh (Nat.le_succ _))⟩
end TW
set_option Elab.async false
set_option linter.all false
set_option maxRecDepth 100000
set_option maxHeartbeats 8000000
/-! Wall -/
namespace TW
open PySem PySem.Spec PyProof.Rows L2 RZ StX
open Evl (Ex)
theorem nodup_len {α : Type} [DecidableEq α] {l m : List α} (h1 : l.Nodup) (h2 : m.Nodup) (h : ∀ k, k ∈ l ↔ k ∈ m) : l.length = m.length := ((List.perm_ext_iff_of_nodup h1 h2).mpr h).length_eq
abbrev eS : Str → PyData := .str
theorem eS_alike (a b : Str) : PySem.W.alike (eS a) (eS b) = true := by simp [PySem.W.alike]
theorem eS_other (b : Str) : eS b ≠ .none ∧ ∀ xs, eS b ≠ .tuple xs := ⟨by simp, fun xs => by simp⟩
theorem eS_depth (a : Str) : (eS a).depth ≤ 8 := by simp [PyData.depth]
/-- marks told one by one, each once -/
def spMarks (K : PySem.W.Frag) : Sp := fun vs H Q _ => ∃ (F : Hp) (v : V) (d : PyData) (l : List Str), vs = [v] ∧ Sees F H ∧ Dp K F v d ∧ isSeq d (l.map .str) ∧ 1 ≤ l.length ∧ l.length ≤ 6 ∧ (∀ z ∈ l, z.length ≤ 1000 ∧ isHeard (.str z) = true) ∧ l.Nodup ∧ ∀ F' H', Gr [] F H F' H' → Q (.bl true) H'
structure WaD where
  ks : List Str
  m : Str → List Str
  all : List Str
structure WaD.Ok (s : WaD) : Prop where
  nd : s.ks.Nodup
  al : ∀ z, z ∈ s.all ↔ z ≠ "" ∧ ∃ k ∈ s.ks, z ∈ s.m k
  an : s.all.Nodup
def waF (vm vs va : V) : List (Str × V) := putF "all_marks" va (putF "sounds" vs (putF "own_marks" vm []))
/-- at a a dict that tells m (as lists | as tuples) at the keys ks -/
structure Tells (K : PySem.W.Frag) (F : Hp) (kvs : List (Key × V)) (ks : List Str) (m : Str → List Str) (enc : List PyData → PyData) : Prop where
  ke : kvs.map (·.1) = ks.map Sum.inr
  va : ∀ s ∈ ks, ∃ v, valV kvs (Sum.inr s) = some v ∧ Dp K F v (enc ((m s).map .str))
theorem Tells.ex {K : PySem.W.Frag} {F F' : Hp} {kvs : List (Key × V)} {ks : List Str} {m : Str → List Str} {enc : List PyData → PyData} (h : Tells K F kvs ks m enc) (e : Ex F F') : Tells K F' kvs ks m enc :=
  ⟨h.ke, fun s hs => by obtain ⟨v, h1, h2⟩ := h.va s hs; exact ⟨v, h1, h2.ex e⟩⟩
structure WaAt (K : PySem.W.Frag) (C : Addr) (F : Hp) (x : Addr) (s : WaD) : Prop where
  ex : ∃ dx D vs va kvs, F x = some (.ins C dx (waF (.ref D) vs va)) ∧ F D = some (.dK kvs) ∧ Tells K F kvs s.ks s.m .tuple ∧ Dp K F va (.tuple (s.all.map .str))
  ok : s.Ok
structure WaC (K : PySem.W.Frag) (C : Addr) : Prop where
  cl : Cls K C
  nM : NoAttr K C "own_marks"
  nS : NoAttr K C "sounds"
  nA : NoAttr K C "all_marks"
theorem WaAt.ex' {K : PySem.W.Frag} {C : Addr} {F F' : Hp} {x : Addr} {s : WaD} (h : WaAt K C F x s) (e : Ex F F') : WaAt K C F' x s := by
  obtain ⟨⟨dx, D, vs, va, kvs, h1, h2, h3, h4⟩, ok⟩ := h
  exact ⟨⟨dx, D, vs, va, kvs, e _ _ h1, e _ _ h2, h3.ex e, h4.ex e⟩, ok⟩
def spWaI (K : PySem.W.Frag) (C : Addr) : Sp := fun vs H Q _ => ∃ (F : Hp) (x dx a : Addr) (kvs : List (Key × V)) (ks : List Str) (m : Str → List Str) (e : List PyData → PyData), vs = [.ref x, .ref a] ∧ H x = some (.ins C dx []) ∧ F x = none ∧ Sees F H ∧ F a = some (.dK kvs) ∧ H a = some (.dK kvs) ∧ Tells K F kvs ks m e ∧ (∀ l, isSeq (e l) l) ∧
  ks ≠ [] ∧ ks.length ≤ 100 ∧ ks.Nodup ∧ (∀ s ∈ ks, s.length ≤ 1000 ∧ isSound (.str s) = true) ∧ (∀ s ∈ ks, 1 ≤ (m s).length ∧ (m s).length ≤ 6 ∧ (∀ z ∈ m s, z.length ≤ 1000 ∧ isHeard (.str z) = true) ∧ (m s).Nodup) ∧
  ∀ (s : WaD) (F' H' : Hp), s.ks.Perm ks → (∀ k ∈ ks, (s.m k).Perm (m k)) → Gr [x] F H F' H' → F' x = none → WaAt K C (upd F' x ((H' x).getD (.own 0))) x s → Q .non H'
section
variable {P : Program} {w : World} {K : PySem.W.Frag} {mg : Str → Option Value} {base : Heap}
theorem ok_are_marks {f : Addr} {fd : FuncData} (F : Fun K "are_marks" "are_marks" s_are_marks f fd) (T : Txt mg) (C_is_listed : Cal P w K mg base "is_listed" 1 ["value"] [] (spListed K)) (C_is_heard : Cal P w K mg base "is_heard" 2 ["value"] [] (spHeard K)) :
    FnOk P w K mg base CX0 3 f fd ["value"] (spMarks K) := by
  refine F.ok sc_are_marks (fun vs H Q E h => ?_) (fun cdv A outer s H vs Q E hr h => ?_)
  · obtain ⟨F0, v, d, l, rfl, _⟩ := h
    rfl
  · obtain ⟨F0, v, d, l, rfl, fs, hd, hq, l1, l6, hz, nd, q⟩ := h
    refine ⟨_, (pss_cons (ps_if (PW.pt (pw_or (pt_not (pt_val (pe_cal C_is_listed (hr.mono (by decide)) (pa_cons (pv 0) pa_nil)))) (pw_or (pt_not (pt_chain op_le op_le pe_int (pe_callB (cr_len K) (by rfl) T.len bt_len (pa_cons (pv 0) pa_nil)) (zc T.c_MOST_MARKS) rfl)) (pw_or1 (pt_not (pt_val (pe_callB (cr_allD K) (by rfl) T.all bt_all (pa_cons (pe_lc (own := [("mark", 1)]) rfl sc_are_marks.nd (zseq K (pv 0)) (blkOk_by (N := sc_are_marksN) (sc := defScope s_are_marks) (by decide +kernel)) (fun _ _ _ _ _ => (zg (i := 1) sc_are_marks.nd)) (fun _ _ _ _ _ => pts_nil) (fun _ _ _ _ _ => (pe_cal C_is_heard (hr.mono (by decide)) (pa_cons (pv 1) pa_nil)))) pa_nil))))))))
        (pss_one (ps_ret pe_bl))
        pss_nil)
      (pss_one (ps_ret (pe_cmpR op_eq (pe_callB (cr_lenK w) (by rfl) T.len bt_len (pa_cons (pe_callTy (cr_setK K w) (by rfl) T.set bt_set (pa_cons (pv 0) pa_nil)) pa_nil)) (pe_callB (cr_len K) (by rfl) T.len bt_len (pa_cons (pv 0) pa_nil)) (nomark _))))), ?_⟩
    have hl : isListed d = true := by rcases hq with rfl | rfl <;> rfl
    refine ⟨v, rfl, F0, v, d, rfl, fs, hd, fun F1 H1 g1 => ⟨_, rfl, ?_⟩⟩
    rw [hl]
    refine iteF ⟨v, rfl, len_dp (hd.ex g1.ff) hq g1.fh ⟨_, _, rfl, rfl, _, rfl, ?_⟩⟩
    refine iteYes (decide_eq_true (by rw [List.length_map]; omega)) ⟨_, _, rfl, rfl, ?_⟩
    refine ⟨_, rfl, iteNo (by rw [List.length_map]; simp; omega) ?_⟩
    refine ⟨v, rfl, seq_walk (hd.ex g1.ff) hq g1.fh fun J xs G w1 hG hxs hlen D hD => ?_⟩
    refine lc_seqB (bs := l) (enc := .str) (f := fun z => isHeard (.str z)) w1 hxs g1.fh hG (by omega) (fun b y F' H' hb g2 hy => turn1 rfl fun Yes h => ⟨_, rfl, F', y, _, rfl, g2.fh, hy, (hz b hb).1, fun F3 H3 g3 => h _ _ _ g3 rfl⟩) hD fun F2 H2 g2 fD hDc => ?_
    refine all_new hDc ⟨_, rfl, ?_⟩
    rw [List.all_map, show l.all (id ∘ fun z => isHeard (.str z)) = true from List.all_eq_true.mpr fun z h => (hz z h).2]
    refine iteF ?_
    have gA := g1.trans g2
    obtain ⟨a, zs, rfl, hs, hzs⟩ := dp_seq (hd.ex gA.ff) hq
    rw [dps_str] at hzs
    subst hzs
    refine ⟨_, rfl, a, l.map Sum.inr, rfl, by rw [keys_str]; exact hs.imp (sees_l gA.fh) (sees_t gA.fh), by rw [List.length_map]; omega, fun q1 n hq1 hn hex => ⟨q1, l.map Sum.inr, n, rfl, upd_same, ?_⟩⟩
    have gB := gA.newM (o := SKO w q1 (l.map Sum.inr) n) hq1
    refine ⟨_, rfl, len_dp (hd.ex gB.ff) hq gB.fh ⟨rfl, ?_⟩⟩
    obtain ⟨l', n1, n2, n3⟩ := hex
    have e : n = l.length := by
      rw [← n2]
      have z := nodup_len n1 (m := l.map Sum.inr) (List.pairwise_map.mpr (nd.imp fun h e => h (Sum.inr.inj e))) n3
      rw [List.length_map] at z
      exact z
    have q0 := q _ _ gB
    rw [show decide (V.int n = V.int (l.map PyData.str).length) = true from decide_eq_true (by rw [e, List.length_map])]
    exact q0
/-- the keys as the walk gives them -/
theorem tells_at {F : Hp} {kvs : List (Key × V)} {ks : List Str} {m : Str → List Str} {enc : List PyData → PyData} (h : Tells K F kvs ks m enc) {i : Nat} {k : Key} {v : V} {s : Str} (e : kvs[i]? = some (k, v)) (es : ks[i]? = some s) : k = Sum.inr s := by
  have z := congrArg (·[i]?) h.ke
  simp only [List.getElem?_map, e, es, Option.map_some] at z
  exact Option.some.inj z
theorem tells_len {F : Hp} {kvs : List (Key × V)} {ks : List Str} {m : Str → List Str} {enc : List PyData → PyData} (h : Tells K F kvs ks m enc) : kvs.length = ks.length := by
  have z := congrArg List.length h.ke
  rw [List.length_map, List.length_map] at z
  exact z
theorem tells_keys {F : Hp} {kvs : List (Key × V)} {ks : List Str} {m : Str → List Str} {enc : List PyData → PyData} (h : Tells K F kvs ks m enc) : (kvs.map fun kv => kV kv.1) = ks.map V.str := by
  have z := congrArg (List.map kV) h.ke
  rw [List.map_map, keys_str] at z
  exact z
theorem alikeS (l : List Str) : PySem.W.AllAlike (l.map eS) := fun d hd e he => by
  obtain ⟨a, _, rfl⟩ := List.mem_map.mp hd
  obtain ⟨b, _, rfl⟩ := List.mem_map.mp he
  exact eS_alike a b
theorem sortableS (l : List Str) : PySem.W.Sortable (l.map eS) := .inr fun d hd => by
  obtain ⟨a, _, rfl⟩ := List.mem_map.mp hd
  exact eS_other a
theorem tells_put {F : Hp} {acc : List (Key × V)} {ks : List Str} {m : Str → List Str} {enc : List PyData → PyData} {i : Nat} {b : Str} {z : V} (h : Tells K F acc (ks.take i) m enc) (nd : ks.Nodup) (hb : ks[i]? = some b) (hz : Dp K F z (enc ((m b).map .str))) :
    Tells K F (putK acc (Sum.inr b) z) (ks.take (i + 1)) m enc := by
  have tk : ks.take (i + 1) = ks.take i ++ [b] := by rw [List.take_add_one, hb]; rfl
  have nb : b ∉ ks.take i := by
    have z := nd.sublist (List.take_sublist (i + 1) ks)
    rw [tk] at z
    exact fun h => (List.nodup_append.mp z).2.2 b h b (by simp) rfl
  have vn : valV acc (Sum.inr b) = none := by
    cases e : valV acc (Sum.inr b) with
    | none => rfl
    | some v =>
      have z := valV_in e
      rw [h.ke, List.mem_map] at z
      obtain ⟨y, y1, y2⟩ := z
      cases y2
      exact absurd y1 nb
  refine ⟨by rw [putK_new _ vn, List.map_append, h.ke, tk, List.map_append]; rfl, fun s hs => ?_⟩
  rw [valV_put]
  by_cases e : s = b
  · subst e
    exact ⟨z, by rw [if_pos rfl], hz⟩
  · rw [if_neg (fun z => e (Sum.inr.inj z))]
    refine h.va s ?_
    rw [tk, List.mem_append, List.mem_singleton] at hs
    exact hs.resolve_right e
theorem ok_Wall_init {f C : Addr} {fd : FuncData} (F : Fun K "__init__" "Wall.__init__" s_Wall___init__ f fd) (T : Txt mg) (TW_ : WaC K C) (C_is_sound : Cal P w K mg base "is_sound" 1 ["value"] [] (spSound K)) (C_are_marks : Cal P w K mg base "are_marks" 3 ["value"] [] (spMarks K)) :
    FnOk P w K mg base CX0 4 f fd ["self", "marks"] (spWaI K C) := by
  refine F.ok sc_Wall___init__ (fun vs H Q E h => ?_) (fun cdv A outer s H vs Q E hr h => ?_)
  · obtain ⟨F0, x, dx, a, kvs, ks, m, e, rfl, _⟩ := h
    rfl
  · obtain ⟨F0, x, dx, a, kvs, ks, m, e, rfl, hx, fx, fs, fa, ha, tl, eseq, ne, zk, ndk, okk, okm, q⟩ := h
    have hu := hu_of hr
    have hu16 := hu16_of hr
    have hu8 := hu8_of hr
    have lk := tells_len tl
    refine ⟨_, (pss_cons (ps_if (PW.pt (pw_or (pt_not (pt_val (pe_callB (cr_isi K) (by rfl) T.isinstance bt_isinstance (pa_cons (pv 1) (pa_cons (zty T.dict bt_dict) pa_nil))))) (pw_or (pt_cmpR op_eq (pe_callB call_lenD (by rfl) T.len bt_len (pa_cons (pv 1) pa_nil)) pe_int (nomark _)) (pw_or1 (pt_not (pt_val (pe_callB (cr_allD K) (by rfl) T.all bt_all (pa_cons (pe_lock (pe_lc (own := [("sound", 2)]) rfl sc_Wall___init__.nd (pi_keys (pv 1)) (blkOk_by (N := sc_Wall___init__N) (sc := defScope s_Wall___init__) (by decide +kernel)) (fun _ _ _ _ _ => (zg (i := 2) sc_Wall___init__.nd)) (fun _ _ _ _ _ => pts_nil) (fun _ _ _ _ _ => (pe_cal C_is_sound (hr.mono (by decide)) (pa_cons (pv 2) pa_nil))))) pa_nil))))))))
        (pss_one ps_never)
        pss_nil)
      (pss_cons (ps_if (pt_not (pt_val (pe_callB (cr_allD K) (by rfl) T.all bt_all (pa_cons (pe_lock (pe_lc (own := [("sound", 2)]) rfl sc_Wall___init__.nd (pi_keys (pv 1)) (blkOk_by (N := sc_Wall___init__N) (sc := defScope s_Wall___init__) (by decide +kernel)) (fun _ _ _ _ _ => (zg (i := 2) sc_Wall___init__.nd)) (fun _ _ _ _ _ => pts_nil) (fun _ _ _ _ _ => (pe_cal C_are_marks (hr.mono (by decide)) (pa_cons (pe_dget hu (pv 1) (pv 2) (fun _ _ => rfl)) pa_nil))))) pa_nil))))
        (pss_one ps_never)
        pss_nil)
      (pss_cons (ps_fld (pv 0) (pe_dc (own := [("sound", 2)]) rfl sc_Wall___init__.nd (zseq K (pe_callB (cr_sortedD K hu16) (by rfl) T.sorted bt_sorted (pa_cons (pe_callTy (call_listD rfl) (by rfl) T.list bt_list (pa_cons (pv 1) pa_nil)) pa_nil))) (blkOk_by (N := sc_Wall___init__N) (sc := defScope s_Wall___init__) (by decide +kernel)) (fun _ _ _ _ _ => (zg (i := 2) sc_Wall___init__.nd)) (fun _ _ _ _ _ => pts_nil) (fun _ _ _ _ _ => (pv 2)) (fun _ _ _ _ _ => (pe_callTy (cr_tuple K) (by rfl) T.tuple bt_tuple (pa_cons (pe_callB (cr_sortedQ K hu16) (by rfl) T.sorted bt_sorted (pa_cons (pe_dget hu (pv 1) (pv 2) (fun _ _ => rfl)) pa_nil)) pa_nil)))) rfl)
      (pss_cons (ps_fld (pv 0) (pe_callTy cr_tupKD (by rfl) T.tuple bt_tuple (pa_cons (zfld K (pv 0)) pa_nil)) rfl)
      (pss_cons (ps_lock (ps_setLc2 (i := 3) (own := [("sound", 2), ("mark", 4)]) (vs1 := [4]) rfl sc_Wall___init__.nd rfl rfl (sw_true rfl rfl rfl (by decide +kernel)) (pi_keys (zfld K (pv 0))) (blkOk_by (N := sc_Wall___init__N) (sc := defScope s_Wall___init__) (by decide +kernel)) (by decide) (fun _ _ _ _ _ => (zg (i := 2) sc_Wall___init__.nd)) (fun _ _ _ _ _ => pts_nil) (fun _ _ _ _ _ => (zseq K (pe_dget hu (zfld K (pv 0)) (pv 2) (fun _ _ => rfl)))) (fun _ _ _ _ _ => (zg (i := 4) sc_Wall___init__.nd)) (fun _ _ _ _ _ => (pts_one (pt_cmpR op_ne (pv 4) pe_str (nomark _)))) (fun _ _ _ _ _ => (pv 4))))
      (pss_one (ps_fld (pv 0) (pe_callTy (cr_tuple K) (by rfl) T.tuple bt_tuple (pa_cons (pe_callB (cr_sortedKS w hu8) (by rfl) T.sorted bt_sorted (pa_cons (pe_callTy (cr_setK K w) (by rfl) T.set bt_set (pa_cons (pv 3) pa_nil)) pa_nil)) pa_nil)) rfl))))))), ?_⟩
    -- a dict, its keys sounds
    refine ⟨_, rfl, isi_dK ha (T := "dict") rfl ⟨_, rfl, iteF ?_⟩⟩
    refine ⟨_, rfl, a, kvs, rfl, ha, rfl, _, rfl, iteNo (fun e => ne (List.length_eq_zero_iff.mp (by have z := V.int.inj (of_decide_eq_true e); omega))) ?_⟩
    refine ⟨a, _, ha, True.intro, fun od => ⟨_, rfl, a, od, rfl, .inl ⟨kvs, upd_same, fun D hD => ?_⟩⟩⟩
    have na : upd H a (.frz od (.dK kvs)) a = some (.frz od (.dK kvs)) := upd_same
    refine lc_boolsG K (bs := ks) (f := fun z => isSound (.str z)) (Im := fun z x F => x = .str z) (by rw [← lk]; exact walk_keys) (sees_lock fs fa) (fun F' H' g => g.at na) (by omega) (fun i b x F' H' H'' hb g1 y => ?_)
      (fun b x F' H' hb g1 im => ?_) hD fun F1 H1 g1 fD hDc => ?_
    · obtain ⟨rfl, k, v, e1, rfl⟩ := y
      rw [tells_at tl e1 hb]
      exact ⟨F', Gr.refl g1.fh, rfl⟩
    · subst im
      exact turn1 rfl fun Yes h => ⟨_, rfl, F', _, .str b, rfl, g1.fh, .str b, (okk b hb).1, fun F3 H3 g3 => h _ _ _ g3 rfl⟩
    have nDa : D ≠ a := ne_of hDc (g1.at na) (fun z => nomatch z)
    refine ⟨g1.at na, all_new (by rw [upd_ne nDa]; exact hDc) ⟨_, rfl, ?_⟩⟩
    rw [List.all_map, show ks.all (id ∘ fun z => isSound (.str z)) = true from List.all_eq_true.mpr fun z h => (okk z h).2]
    refine iteF ?_
    have gA := Gr.unlock fa ha g1
    have ha1 : upd H1 a (.dK kvs) a = some (.dK kvs) := upd_same
    generalize upd H1 a (.dK kvs) = H2 at gA ha1 ⊢
    clear g1 hDc nDa na hD
    -- its values marks
    have fa1 := gA.ff _ _ fa
    have tl1 := tl.ex gA.ff
    refine ⟨a, _, ha1, True.intro, fun od => ⟨_, rfl, a, od, rfl, .inl ⟨kvs, upd_same, fun D hD => ?_⟩⟩⟩
    have na : upd H2 a (.frz od (.dK kvs)) a = some (.frz od (.dK kvs)) := upd_same
    refine lc_boolsG K (bs := ks) (f := fun _ => true) (Im := fun z x F => x = .str z) (by rw [← lk]; exact walk_keys) (sees_lock gA.fh fa1) (fun F' H' g => g.at na) (by omega) (fun i b x F' H' H'' hb g1 y => ?_)
      (fun b x F' H' hb g1 im => ?_) hD fun F3 H3 g3 fD hDc => ?_
    · obtain ⟨rfl, k, v, e1, rfl⟩ := y
      rw [tells_at tl e1 hb]
      exact ⟨F', Gr.refl g1.fh, rfl⟩
    · subst im
      obtain ⟨v, v1, v2⟩ := tl1.va b hb
      obtain ⟨m1, m2, m3, m4⟩ := okm b hb
      exact turn1 rfl fun Yes h => ⟨_, rfl, _, rfl, a, v, rfl, .inl ⟨kvs, Sum.inr b, .inr ⟨od, g1.at na⟩, rfl, v1.symm⟩, F', v, _, m b, rfl, g1.fh, v2.ex g1.ff, eseq _, m1, m2, m3, m4, fun F4 H4 g4 => h _ _ _ g4 rfl⟩
    have nDa : D ≠ a := ne_of hDc (g3.at na) (fun z => nomatch z)
    refine ⟨g3.at na, all_new (by rw [upd_ne nDa]; exact hDc) ⟨_, rfl, ?_⟩⟩
    rw [List.all_map, show ks.all (id ∘ fun _ => true) = true from List.all_eq_true.mpr fun z h => rfl]
    refine iteF ?_
    have gB := gA.trans (Gr.unlock fa1 ha1 g3)
    have ha2 : upd H3 a (.dK kvs) a = some (.dK kvs) := upd_same
    generalize upd H3 a (.dK kvs) = H4 at gB ha2 ⊢
    clear g3 hDc nDa na hD gA tl1 fa1 ha1
    -- own_marks
    have tl2 := tl.ex gB.ff
    refine ⟨_, rfl, a, kvs, rfl, .inl ha2, fun p1 hp1 => ?_⟩
    rw [tells_keys tl2]
    have g1 := gB.newM (o := .lst (ks.map V.str)) hp1
    refine ⟨Str, eS, ks, p1, ks.map V.str, F3, rfl, g1.fh, .inl (.inl upd_same), dps_str.mpr rfl, alikeS ks, sortableS ks, fun b _ => eS_depth b, fun ys p2 hy hp2 => ?_⟩
    generalize ek : ks.mergeSort (PySem.W.dataLe false eS) = ks2 at hy
    have pk : ks2.Perm ks := ek ▸ List.mergeSort_perm _ _
    have nd2 : ks2.Nodup := pk.nodup_iff.mpr ndk
    have hys := dps_str.mp hy
    subst hys
    have g2 := g1.newM (o := .lst (ks2.map V.str)) hp2
    have s2 : upd (upd H4 p1 (.lst (ks.map V.str))) p2 (.lst (ks2.map V.str)) p2 = some (.lst (ks2.map V.str)) := upd_same
    generalize upd (upd H4 p1 (.lst (ks.map V.str))) p2 (.lst (ks2.map V.str)) = H5 at g2 s2 ⊢
    clear g1 hp2 hp1 hy gB ha2
    refine .mk ⟨p2, _, rfl, .inl ⟨.inl (.inl s2), fun D hD => ?_⟩⟩
    refine dc_st (walk_list (K := K) (a := p2) (xs := ks2.map V.str)) g2.fh (fun i acc F' H' => Tells K F' acc (ks2.take i) (fun s => (m s).mergeSort (PySem.W.dataLe false eS)) .tuple) (fun _ _ _ _ _ h _ _ => h) (fun i acc F' H' _ gr _ => .inl (.inl (gr.at s2)))
      ⟨rfl, by simp⟩ (by rw [List.length_map, pk.length_eq]; omega) (fun i acc x' F' H' H'' hi hl gr fD hDc pv y => ?_) hD fun acc F' H' gr fD hDc pv => ?_
    · obtain ⟨rfl, hxi⟩ := y
      rw [List.getElem?_map] at hxi
      obtain ⟨b, hb, rfl⟩ := Option.map_eq_some_iff.mp hxi
      have bm : b ∈ ks := pk.mem_iff.mp (List.mem_of_getElem? hb)
      obtain ⟨v, v1, v2⟩ := tl2.va b bm
      obtain ⟨la, xs, rfl, hsl, hxl⟩ := dp_seq (v2.ex gr.ff) (eseq _)
      refine ⟨F', Gr.refl gr.fh, turnD1 rfl fun Yes h => ⟨_, rfl, ?_⟩⟩
      refine ⟨_, rfl, _, rfl, a, .ref la, rfl, .inl ⟨kvs, Sum.inr b, .inl (gr.at (g2.at ha)), rfl, v1.symm⟩, ?_⟩
      refine ⟨Str, eS, m b, la, xs, F', rfl, gr.fh, hsl.imp (sees_l gr.fh) (sees_t gr.fh), hxl, alikeS _, sortableS _, fun b _ => eS_depth b, fun ys p3 hy hp3 => ?_⟩
      have h3 := (Gr.refl (B := []) gr.fh).newM (o := .lst ys) hp3
      refine .mk ⟨p3, ys, rfl, .inl ⟨.inl (.inl upd_same), fun l hl' => ?_⟩⟩
      have h4 := h3.new (o := .tup ys) hl'
      exact h (Sum.inr b) _ _ _ h4 (tells_put (pv.ex h4.ff) nd2 hb (.tup (.inl (.inl upd_same)) (hy.ex h4.ff)))
    rw [List.length_map, List.take_length] at pv
    have g3 := g2.trans gr
    have hxD : D ≠ x := fun e => by rw [e, g2.at hx] at hD; cases hD
    have hD0 : H D = none := g2.dm _ hD
    have fx3 := g3.none' fx (by rw [hx]; exact fun z => nomatch z)
    clear gr g2 s2 hD
    generalize em : (fun s => (m s).mergeSort (PySem.W.dataLe false eS)) = m2 at pv
    have pm : ∀ k, (m2 k).Perm (m k) := fun k => em ▸ List.mergeSort_perm _ _
    -- kept
    refine ⟨_, rfl, x, C, dx, [], rfl, g3.at hx, TW_.cl, TW_.nM, by decide, ?_⟩
    have g4 := ((g3.mono (B' := [x]) (fun b hb => absurd hb (by simp))).mut (o := .ins C dx (putF "own_marks" (.ref D) [])) fx3 (.inl (List.mem_singleton.mpr rfl))).done hD0 fD (by rw [upd_ne hxD]; exact hDc)
    have c4 : upd H' x (.ins C dx (putF "own_marks" (.ref D) [])) x = some (.ins C dx (putF "own_marks" (.ref D) [])) := upd_same
    have d4 : upd H' x (.ins C dx (putF "own_marks" (.ref D) [])) D = some (.dK acc) := by rw [upd_ne hxD]; exact hDc
    have e4 := Ex.new (o := HO.dK acc) fD
    have pv4 := pv.ex e4
    have f4 : upd F' D (.dK acc) D = some (.dK acc) := upd_same
    have fx4 : upd F' D (.dK acc) x = none := by rw [upd_ne (Ne.symm hxD)]; exact fx3
    generalize upd F' D (.dK acc) = F5 at g4 pv4 f4 fx4
    generalize upd H' x (.ins C dx (putF "own_marks" (.ref D) [])) = H6 at g4 c4 d4 ⊢
    clear g3 pv e4 fx3 fD hDc
    -- sounds
    refine ⟨_, rfl, x, C, dx, _, _, rfl, c4, TW_.cl, TW_.nM, rfl, ?_⟩
    refine .mk ⟨D, acc, rfl, .inl d4, fun p4 hp4 => ?_⟩
    rw [tells_keys pv4]
    refine ⟨_, rfl, x, C, dx, _, rfl, by rw [upd_ne (ne_of_none c4 hp4)]; exact c4, TW_.cl, TW_.nS, by show 1 < 1000; decide, ?_⟩
    have g5 := (g4.new (o := .tup (ks2.map V.str)) hp4).mut (o := .ins C dx (putF "sounds" (.ref p4) (putF "own_marks" (.ref D) []))) (p := x) (by rw [upd_ne (ne_of_none c4 hp4)]; exact fx4) (.inl (List.mem_singleton.mpr rfl))
    have c5 : upd (upd H6 p4 (.tup (ks2.map V.str))) x (.ins C dx (putF "sounds" (.ref p4) (putF "own_marks" (.ref D) []))) x = some (.ins C dx (putF "sounds" (.ref p4) (putF "own_marks" (.ref D) []))) := upd_same
    have d5 : upd (upd H6 p4 (.tup (ks2.map V.str))) x (.ins C dx (putF "sounds" (.ref p4) (putF "own_marks" (.ref D) []))) D = some (.dK acc) := by rw [upd_ne hxD, upd_ne (ne_of_none d4 hp4)]; exact d4
    have e5 := Ex.new (o := HO.tup (ks2.map V.str)) (g4.fh.dm hp4)
    have pv5 := pv4.ex e5
    have f5 := e5 _ _ f4
    have fx5 : upd F5 p4 (.tup (ks2.map V.str)) x = none := by rw [upd_ne (ne_of_none c4 hp4)]; exact fx4
    generalize upd F5 p4 (.tup (ks2.map V.str)) = F6 at g5 pv5 f5 fx5
    generalize upd (upd H6 p4 (.tup (ks2.map V.str))) x (.ins C dx (putF "sounds" (.ref p4) (putF "own_marks" (.ref D) []))) = H7 at g5 c5 d5 ⊢
    clear g4 c4 d4 e5 pv4 f4 fx4
    -- every
    refine ⟨D, _, d5, True.intro, fun od2 => ?_⟩
    have xD : x ≠ D := Ne.symm hxD
    have c6 : upd H7 D (.frz od2 (.dK acc)) x = some (.ins C dx (putF "sounds" (.ref p4) (putF "own_marks" (.ref D) []))) := by rw [upd_ne xD]; exact c5
    have d6 : upd H7 D (.frz od2 (.dK acc)) D = some (.frz od2 (.dK acc)) := upd_same
    refine ⟨_, rfl, x, C, dx, _, _, rfl, c6, TW_.cl, TW_.nM, rfl, ?_⟩
    refine ⟨D, od2, rfl, .inl ⟨acc, d6, fun E hE => ?_⟩⟩
    have lk5 := tells_len pv5
    have sl := sees_lock (od := od2) g5.fh f5
    have zk2 : ks2.length ≤ 100 := by rw [pk.length_eq]; exact zk
    refine loop_it walk_keys (fun i H' => ∃ F' l, Gr [] F6 (upd H7 D (.frz od2 (.dK acc))) F' H' ∧ F' E = none ∧ H' E = some (.lst (l.map V.str)) ∧ l.length ≤ 6 * i ∧ ∀ z : Str, z ∈ l ↔ z ≠ "" ∧ ∃ k ∈ ks2.take i, z ∈ m2 k)
      ⟨F6, [], (Gr.refl sl).newM hE, sl.dm hE, upd_same, Nat.zero_le _, by simp⟩ (fun i H' _ ⟨F', l, g, _⟩ => g.at d6) (fun i x' H' H'' hi ⟨F', l, g, fE, hE', ll, hl⟩ y => ?_) fun H' ⟨F', l, g, fE, hE', ll, hl⟩ => ?_
    · obtain ⟨rfl, k, v, e1, rfl⟩ := y
      have hi' : i < ks2.length := by rw [← lk5]; exact hi
      have hb : ks2[i]? = some ks2[i] := List.getElem?_eq_getElem hi'
      generalize ks2[i] = b at hb
      obtain rfl := tells_at pv5 e1 hb
      have bm : b ∈ ks := pk.mem_iff.mp (List.mem_of_getElem? hb)
      obtain ⟨v', v1, v2⟩ := pv5.va b (List.mem_of_getElem? hb)
      have tk : ks2.take (i + 1) = ks2.take i ++ [b] := by rw [List.take_add_one, hb]; rfl
      obtain ⟨m1, m6, mz, mn⟩ := okm b bm
      have lb : (m2 b).length ≤ 6 := by rw [(pm b).length_eq]; exact m6
      refine ⟨rfl, yesI ?_⟩
      refine ⟨_, rfl, x, C, dx, _, _, rfl, g.at c6, TW_.cl, TW_.nM, rfl, _, rfl, D, v', rfl, .inl ⟨acc, Sum.inr b, .inr ⟨od2, g.at d6⟩, rfl, v1.symm⟩, ?_⟩
      refine seq_walk (v2.ex g.ff) (.inr rfl) g.fh fun J xs G w1 hG hxs hlen => ?_
      rw [hxs.length] at w1
      refine loop_it w1 (fun j H' => ∃ F'' l', Gr [E] F' H'' F'' H' ∧ F'' E = none ∧ H' E = some (.lst (l'.map V.str)) ∧ l'.length ≤ 6 * i + j ∧ ∀ z : Str, z ∈ l' ↔ z ≠ "" ∧ ((∃ k ∈ ks2.take i, z ∈ m2 k) ∨ z ∈ (m2 b).take j))
        ⟨F', l, Gr.refl g.fh, fE, hE', ll, fun z => by rw [hl z]; simp⟩ (fun j H' _ ⟨F'', l', g', _⟩ => hG H' (fun a o e => g'.fh a o (g'.ff a o e))) (fun j x' H' H'' hj ⟨F'', l', g', fE', hE'', ll', hl'⟩ y => ?_) fun H' ⟨F'', l', g', fE', hE'', ll', hl'⟩ => ?_
      · obtain ⟨rfl, hxi⟩ := y
        obtain ⟨d, h1, h2⟩ := hxs.get hxi
        rw [List.getElem?_map] at h1
        obtain ⟨z, hz, rfl⟩ := Option.map_eq_some_iff.mp h1
        cases h2
        rw [List.length_map] at hj
        have tz : (m2 b).take (j + 1) = (m2 b).take j ++ [z] := by rw [List.take_add_one, hz]; rfl
        refine ⟨rfl, ?_⟩
        refine ⟨_, rfl, rfl, _, rfl, ?_⟩
        have kE := (Gr.refl (B := [E]) g'.fh).mut (o := .lst ((l' ++ [z]).map V.str)) fE' (.inl (List.mem_singleton.mpr rfl))
        by_cases e : z = ""
        · refine iteNo (by rw [e]; decide) ⟨F'', l', g', fE', hE'', by omega, fun u => ?_⟩
          rw [hl' u, tz]
          constructor
          · rintro ⟨u1, u2⟩
            exact ⟨u1, u2.imp id fun q => by simp [q]⟩
          · rintro ⟨u1, u2⟩
            refine ⟨u1, u2.imp id fun q => ?_⟩
            rw [List.mem_append, List.mem_singleton] at q
            exact q.resolve_right fun q => u1 (q.trans e)
        · refine iteYes (by rw [Bool.not_eq_true', decide_eq_false_iff_not]; exact fun q => e (V.str.inj q)) ⟨_, rfl, _, hE'', by rw [sizeLine_eq, List.length_map]; omega, ?_⟩
          rw [show l'.map V.str ++ [V.str z] = (l' ++ [z]).map V.str by rw [List.map_append]; rfl]
          refine ⟨F'', l' ++ [z], g'.trans kE (fun b hb => .inl hb), fE', upd_same, by simp; omega, fun u => ?_⟩
          rw [List.mem_append, List.mem_singleton, hl' u, tz, List.mem_append, List.mem_singleton]
          constructor
          · rintro (⟨u1, u2⟩ | rfl)
            · exact ⟨u1, u2.imp id .inl⟩
            · exact ⟨e, .inr (.inr rfl)⟩
          · rintro ⟨u1, u2 | u2 | u2⟩
            · exact .inl ⟨u1, .inl u2⟩
            · exact .inl ⟨u1, .inr u2⟩
            · exact .inr u2
      · refine ⟨F'', l', g.trans g' (fun b hb => .inr (by rw [List.mem_singleton.mp hb]; exact hE)), fE', hE'', ?_, fun z => ?_⟩
        · rw [List.length_map] at ll'
          omega
        · rw [hl' z, List.length_map, List.take_length, tk]
          simp [or_and_right, exists_or]
    · rw [lk5, List.take_length] at hl
      have hED : D ≠ E := ne_of_none d6 hE
      refine ⟨g.at d6, ?_⟩
      have gF := Gr.unlock f5 d5 (g.done hE fE hE')
      have e7 := gF.ff
      have gG := g5.trans gF
      have c7 := gF.at c5
      have E7 : upd H' D (.dK acc) E = some (.lst (l.map V.str)) := by rw [upd_ne (Ne.symm hED)]; exact hE'
      have fx7 := gF.none' fx5 (by rw [c5]; exact fun z => nomatch z)
      have f7 := e7 _ _ f5
      generalize upd F' E (.lst (l.map V.str)) = F8 at gG e7 fx7 f7
      generalize upd H' D (.dK acc) = H8 at gG c7 E7 ⊢
      clear gF g hE' fE
      refine ⟨_, rfl, E, l.map Sum.inr, rfl, .inl (by rw [keys_str]; exact .inl (.inl E7)), by rw [List.length_map]; omega, fun q1 n hq1 hn hex => ⟨q1, l, n, rfl, upd_same, fun ns p5 srt nd mem len hp5 => ?_⟩⟩
      refine .mk ⟨p5, _, rfl, .inl ⟨.inl (.inl upd_same), fun p6 hp6 => ?_⟩⟩
      have g8 := ((gG.newM (o := SKO w q1 (l.map Sum.inr) n) hq1).newM (o := .lst (ns.map V.str)) hp5).new (o := .tup (ns.map V.str)) hp6
      have n1 := ne_of_none c7 hq1
      have c71 : upd H8 q1 (SKO w q1 (l.map Sum.inr) n) x = some _ := (upd_ne n1).trans c7
      have n2 := ne_of_none c71 hp5
      have c72 : upd (upd H8 q1 (SKO w q1 (l.map Sum.inr) n)) p5 (.lst (ns.map V.str)) x = some _ := (upd_ne n2).trans c71
      have n3 := ne_of_none c72 hp6
      have c73 : upd (upd (upd H8 q1 (SKO w q1 (l.map Sum.inr) n)) p5 (.lst (ns.map V.str))) p6 (.tup (ns.map V.str)) x = some _ := (upd_ne n3).trans c72
      refine ⟨_, rfl, x, C, dx, _, rfl, c73, TW_.cl, TW_.nA, by show 2 < 1000; decide, ?_⟩
      have fx8 : upd F8 p6 (.tup (ns.map V.str)) x = none := by rw [upd_ne n3]; exact fx7
      have g9 := g8.mut (o := .ins C dx (waF (.ref D) (.ref p4) (.ref p6))) fx8 (.inl (List.mem_singleton.mpr rfl))
      refine q ⟨ks2, m2, ns⟩ _ _ pk (fun k _ => pm k) g9 fx8 ?_
      have e8 : Ex F6 (upd (upd F8 p6 (.tup (ns.map V.str))) x (.ins C dx (waF (.ref D) (.ref p4) (.ref p6)))) := (e7.trans (Ex.new ((gG.newM (o := SKO w q1 (l.map Sum.inr) n) hq1).newM (o := .lst (ns.map V.str)) hp5 |>.fh.dm hp6))).trans (Ex.new fx8)
      have xp : p6 ≠ x := Ne.symm n3
      rw [upd_same, Option.getD_some]
      refine ⟨⟨dx, D, .ref p4, .ref p6, acc, upd_same, e8 _ _ f5, pv5.ex e8, .tup (.inl (.inl ?_)) (dps_str.mpr rfl)⟩, nd2, fun z => ?_, nd⟩
      · rw [upd_ne xp, upd_same]
      · show z ∈ ns ↔ _
        rw [mem z, hl z]
end
end TW
set_option Elab.async false
set_option linter.all false
set_option maxRecDepth 100000
set_option maxHeartbeats 8000000
/-! need_speech, need_wall, Hearing -/
namespace TW
open PySem PySem.Spec PyProof.Rows L2 RZ StX
open Evl (Ex)
/-- a class whose instances isinstance tells -/
structure InsC (K : PySem.W.Frag) (C : Addr) : Prop where
  cl : Cls K C
  ha : PySem.W.findIn K (.ref C) "__class__" = some (some (.builtin "object.__class__"))
  hn : PySem.W.specialIn K (.builtin "object.__class__") "__get__" = some (some (.builtin "getset_descriptor.__get__"))
  ht : PySem.W.takesIn K (.builtin "object.__class__") = some true
  hm : PySem.W.mroIn K C (.type "object") = some true
theorem isi_own {K : PySem.W.Frag} {H : Hp} {x C dx : Addr} {fs : List (Str × V)} {Q : VK} (I : InsC K C) (h : H x = some (.ins C dx fs)) (q : Q (.bl true) H) : rIsiD K [.ref x, .ref C] H Q :=
  .mk ⟨.ref x, .ref C, .ref C, .ref C, true, rfl, .own C, .base (.ins h I.cl I.ha I.hn I.ht I.hm), by simp [PySem.W.kitOne], q⟩
theorem nodup_le {α : Type} [DecidableEq α] : ∀ {l m : List α}, l.Nodup → (∀ k ∈ l, k ∈ m) → l.length ≤ m.length
  | [], m, _, _ => Nat.zero_le _
  | x :: l, m, nd, h => by
    obtain ⟨n1, n2⟩ := List.nodup_cons.mp nd
    have hx := h x List.mem_cons_self
    have := nodup_le (l := l) (m := m.erase x) n2 fun k hk => (List.mem_erase_of_ne (fun e => n1 (by rw [← e]; exact hk))).mpr (h k (List.mem_cons_of_mem _ hk))
    rw [List.length_erase_of_mem hx] at this
    have := List.length_pos_of_mem hx
    simp only [List.length_cons]
    omega
theorem SpD.Ok.zlen {s : SpD} (h : s.Ok) : s.Z.length ≤ s.A.length := by
  have := nodup_le (m := s.A.map fun a => a.2.1) h.nd fun k hk => by
    obtain ⟨a, h1, h2⟩ := (h.so k).mp hk
    exact List.mem_map.mpr ⟨a, h1, h2⟩
  rwa [List.length_map] at this
/-- a key map: what it holds at the int p (nothing: []) -/
def Holds (K : PySem.W.Frag) (F : Hp) (kvs : List (Key × V)) (p : Int) (l : List Int) : Prop := (valV kvs (Sum.inl p) = none ∧ l = []) ∨ ∃ v, valV kvs (Sum.inl p) = some v ∧ Dp K F v (.tuple (l.map .int))
theorem Holds.ex {K : PySem.W.Frag} {F F' : Hp} {kvs : List (Key × V)} {p : Int} {l : List Int} (h : Holds K F kvs p l) (e : Ex F F') : Holds K F' kvs p l := h.imp id fun ⟨v, h1, h2⟩ => ⟨v, h1, h2.ex e⟩
/-- the Hearing of the arrows: tr the triples (place, mark, later) that are told so far -/
structure HInv (K : PySem.W.Frag) (U : Addr) (P : List Int) (all : List Str) (ad : List Addr) (tr : List (Int × Str × Int)) (F H : Hp) : Prop where
  u : ∃ kU, H U = some (.dK kU) ∧ kU.length ≤ 4000 + tr.length ∧ ∀ p ∈ P, ∃ (v : V) (l : List Int), valV kU (Sum.inl p) = some v ∧ Dp K F v (.tuple (l.map .int)) ∧ l.length ≤ tr.length ∧ ∀ q, q ∈ l ↔ (p, ("" : Str), q) ∈ tr
  d : ∀ (j : Nat) (k : Str) (a : Addr), all[j]? = some k → ad[j]? = some a → ∃ kD, H a = some (.dK kD) ∧ kD.length ≤ tr.length ∧ ∀ p, ∃ l : List Int, Holds K F kD p l ∧ l.length ≤ tr.length ∧ ∀ q, q ∈ l ↔ (p, k, q) ∈ tr
abbrev heF (vs vw vu vl : V) : List (Str × V) := putF "led" vl (putF "unheard" vu (putF "wall" vw (putF "speech" vs [])))
/-- the triples of arrows heard through a wall -/
def trip (m : Str → List Str) (A : List Arr) : List (Int × Str × Int) := A.flatMap fun a => (m a.2.1).map fun k => (a.1, k, a.2.2)
theorem mem_trip {m : Str → List Str} {A : List Arr} {p q : Int} {k : Str} : (p, k, q) ∈ trip m A ↔ ∃ z, (p, z, q) ∈ A ∧ k ∈ m z := by
  unfold trip
  rw [List.mem_flatMap]
  constructor
  · rintro ⟨⟨p', z, q'⟩, h1, h2⟩
    obtain ⟨k', h3, h4⟩ := List.mem_map.mp h2
    cases h4
    exact ⟨z, h1, h3⟩
  · rintro ⟨z, h1, h2⟩
    exact ⟨(p, z, q), h1, List.mem_map.mpr ⟨k, h2, rfl⟩⟩
section
variable {K : PySem.W.Frag} {U : Addr} {P : List Int} {all : List Str} {ad : List Addr} {tr : List (Int × Str × Int)} {F F' H H' : Hp}
theorem HInv.ex (h : HInv K U P all ad tr F H) (e : Ex F F') : HInv K U P all ad tr F' H := by
  obtain ⟨⟨kU, h1, h2, h3⟩, hd⟩ := h
  refine ⟨⟨kU, h1, h2, fun p hp => ?_⟩, fun j k a hk ha => ?_⟩
  · obtain ⟨v, l, q1, q2, q3, q4⟩ := h3 p hp
    exact ⟨v, l, q1, q2.ex e, q3, q4⟩
  · obtain ⟨kD, q1, q2, q3⟩ := hd j k a hk ha
    refine ⟨kD, q1, q2, fun p => ?_⟩
    obtain ⟨l, r1, r2, r3⟩ := q3 p
    exact ⟨l, r1.ex e, r2, r3⟩
theorem HInv.heap (h : HInv K U P all ad tr F H) (e : ∀ a o, a ∈ U :: ad → H a = some o → H' a = some o) : HInv K U P all ad tr F H' := by
  obtain ⟨⟨kU, h1, h2, h3⟩, hd⟩ := h
  refine ⟨⟨kU, e _ _ List.mem_cons_self h1, h2, h3⟩, fun j k a hk ha => ?_⟩
  obtain ⟨kD, q1, q2, q3⟩ := hd j k a hk ha
  exact ⟨kD, e _ _ (List.mem_cons_of_mem _ (List.mem_of_getElem? ha)) q1, q2, q3⟩
theorem HInv.putU (h : HInv K U P all ad tr F H) {kU : List (Key × V)} (hU : H U = some (.dK kU)) {p q : Int} {t : V} {l : List Int} (hl : l.length ≤ tr.length) (hm : ∀ q', q' ∈ l ↔ (p, ("" : Str), q') ∈ tr)
    (ht : Dp K F t (.tuple ((l ++ [q]).map .int))) (nU : U ∉ ad) (na : ("" : Str) ∉ all) : HInv K U P all ad (tr ++ [(p, ("" : Str), q)]) F (upd H U (.dK (putK kU (Sum.inl p) t))) := by
  obtain ⟨⟨kU', h1, h2, h3⟩, hd⟩ := h
  rw [hU] at h1
  cases h1
  refine ⟨⟨_, upd_same, ?_, fun p' hp => ?_⟩, fun j k a hk ha => ?_⟩
  · have := length_putK kU (Sum.inl p) t
    rw [List.length_append, List.length_singleton]
    omega
  · rw [valV_put]
    by_cases e : p' = p
    · subst e
      exact ⟨t, l ++ [q], by rw [if_pos rfl], ht, by simp; omega, fun q' => by simp [hm q']⟩
    · obtain ⟨v, l', q1, q2, q3, q4⟩ := h3 p' hp
      exact ⟨v, l', by rw [if_neg fun z => e (Sum.inl.inj z)]; exact q1, q2, by simp; omega, fun q' => by simp [q4 q', e]⟩
  · obtain ⟨kD, q1, q2, q3⟩ := hd j k a hk ha
    have kne : k ≠ "" := fun e => na (e ▸ List.mem_of_getElem? hk)
    have hne : a ≠ U := fun e => nU (by rw [← e]; exact List.mem_of_getElem? ha)
    refine ⟨kD, by rw [upd_ne hne]; exact q1, by simp; omega, fun p' => ?_⟩
    obtain ⟨l', r1, r2, r3⟩ := q3 p'
    exact ⟨l', r1, by simp; omega, fun q' => by simp [r3 q', kne]⟩
theorem HInv.putD (h : HInv K U P all ad tr F H) {j : Nat} {k : Str} {a : Addr} (hk : all[j]? = some k) (ha : ad[j]? = some a) {kD : List (Key × V)} (hD : H a = some (.dK kD)) {p q : Int} {t : V} {l : List Int} (hl : l.length ≤ tr.length)
    (hm : ∀ q', q' ∈ l ↔ (p, k, q') ∈ tr) (ht : Dp K F t (.tuple ((l ++ [q]).map .int))) (nU : U ∉ ad) (nd : ad.Nodup) (an : all.Nodup) (k0 : k ≠ "") : HInv K U P all ad (tr ++ [(p, k, q)]) F (upd H a (.dK (putK kD (Sum.inl p) t))) := by
  obtain ⟨⟨kU, h1, h2, h3⟩, hd⟩ := h
  have hne : U ≠ a := fun e => nU (by rw [e]; exact List.mem_of_getElem? ha)
  refine ⟨⟨kU, by rw [upd_ne hne]; exact h1, by simp; omega, fun p' hp => ?_⟩, fun j' k' a' hk' ha' => ?_⟩
  · obtain ⟨v, l', q1, q2, q3, q4⟩ := h3 p' hp
    exact ⟨v, l', q1, q2, by simp; omega, fun q' => by simp [q4 q', Ne.symm k0]⟩
  · obtain ⟨kD', q1, q2, q3⟩ := hd j' k' a' hk' ha'
    by_cases e : a' = a
    · subst e
      rw [hD] at q1
      cases q1
      have ej : j' = j := (List.getElem?_inj (List.getElem?_eq_some_iff.mp ha').1 nd).mp (ha'.trans ha.symm)
      subst ej
      rw [hk] at hk'
      cases hk'
      refine ⟨_, upd_same, ?_, fun p' => ?_⟩
      · have := length_putK kD (Sum.inl p) t
        simp
        omega
      · by_cases ep : p' = p
        · subst ep
          exact ⟨l ++ [q], .inr ⟨t, by rw [valV_put, if_pos rfl], ht⟩, by simp; omega, fun q' => by simp [hm q']⟩
        · obtain ⟨l', r1, r2, r3⟩ := q3 p'
          refine ⟨l', ?_, by simp; omega, fun q' => by simp [r3 q', ep]⟩
          unfold Holds
          rw [valV_put, if_neg fun z => ep (Sum.inl.inj z)]
          exact r1
    · have kk : k' ≠ k := fun z => by
        subst z
        have ej : j' = j := (List.getElem?_inj (List.getElem?_eq_some_iff.mp hk').1 an).mp (hk'.trans hk.symm)
        subst ej
        rw [ha] at ha'
        cases ha'
        exact e rfl
      refine ⟨kD', by rw [upd_ne e]; exact q1, by simp; omega, fun p' => ?_⟩
      obtain ⟨l', r1, r2, r3⟩ := q3 p'
      exact ⟨l', r1, by simp; omega, fun q' => by simp [r3 q', kk]⟩
end
theorem trip_snoc {m : Str → List Str} {A : List Arr} {a : Arr} : trip m (A ++ [a]) = trip m A ++ (m a.2.1).map fun k => (a.1, k, a.2.2) := by
  unfold trip
  rw [List.flatMap_append]
  simp
theorem trip_len {m : Str → List Str} : ∀ {A : List Arr}, (∀ a ∈ A, (m a.2.1).length ≤ 6) → (trip m A).length ≤ 6 * A.length
  | [], _ => by simp [trip]
  | a :: A, h => by
    have h1 := trip_len (A := A) fun b hb => h b (List.mem_cons_of_mem _ hb)
    have h2 := h a List.mem_cons_self
    unfold trip at h1 ⊢
    rw [List.flatMap_cons, List.length_append, List.length_map, List.length_cons]
    omega
theorem dps3 {K : PySem.W.Frag} {F : Hp} {xs : List V} {p r : Int} {z : Str} (h : DpAll K F xs [.int p, .str z, .int r]) : xs = [.int p, .str z, .int r] := by
  cases h with
  | cons h1 t => cases t with
    | cons h2 t => cases t with
      | cons h3 t =>
        cases t
        rw [dp_int.mp h1, dp_str.mp h2, dp_int.mp h3]
theorem Gr.freeze {B0 : List Addr} {F H H1 : Hp} : ∀ (B : List Addr) {F1 : Hp}, Gr B0 F H F1 H1 → (∀ b ∈ B, H b = none ∧ (F1 b = none ∨ F1 b = H1 b) ∧ H1 b ≠ none) → ∃ F2, Gr B0 F H F2 H1 ∧ Ex F1 F2 ∧ (∀ b ∈ B, F2 b = H1 b) ∧ ∀ a, a ∉ B → F2 a = F1 a
  | [], F1, g, _ => ⟨F1, g, Ex.refl _, fun b h => by simp at h, fun _ _ => rfl⟩
  | b :: r, F1, g, h => by
    obtain ⟨h1, h2, h3⟩ := h b List.mem_cons_self
    obtain ⟨o, ho⟩ := Option.ne_none_iff_exists'.mp h3
    rcases h2 with h2 | h2
    · obtain ⟨F2, q1, q2, q3, q4⟩ := Gr.freeze r (g.done h1 h2 ho) fun c hc => by
        obtain ⟨k1, k2, k3⟩ := h c (List.mem_cons_of_mem _ hc)
        refine ⟨k1, ?_, k3⟩
        by_cases e : c = b
        · subst e
          exact .inr (by rw [upd_same, ho])
        · rw [upd_ne e]
          exact k2
      refine ⟨F2, q1, (Ex.new h2).trans q2, fun c hc => ?_, fun a ha => ?_⟩
      · by_cases e : c ∈ r
        · exact q3 c e
        · obtain rfl := (List.mem_cons.mp hc).resolve_right e
          rw [q4 c e, upd_same, ho]
      · rw [List.mem_cons, not_or] at ha
        rw [q4 a ha.2, upd_ne ha.1]
    · obtain ⟨F2, q1, q2, q3, q4⟩ := Gr.freeze r g fun c hc => h c (List.mem_cons_of_mem _ hc)
      refine ⟨F2, q1, q2, fun c hc => ?_, fun a ha => q4 a fun z => ha (List.mem_cons_of_mem _ z)⟩
      by_cases e : c ∈ r
      · exact q3 c e
      · obtain rfl := (List.mem_cons.mp hc).resolve_right e
        rw [q4 c e, h2]
structure HeAt (K : PySem.W.Frag) (CH CS CW : Addr) (F : Hp) (x : Addr) (s : SpD) (wd : WaD) : Prop where
  ex : ∃ (dx sx wx U L : Addr) (ad : List Addr) (kL : List (Key × V)), F x = some (.ins CH dx (heF (.ref sx) (.ref wx) (.ref U) (.ref L))) ∧ SpAt K CS F sx s ∧ WaAt K CW F wx wd ∧ F L = some (.dK kL) ∧ kL.map (·.1) = wd.all.map Sum.inr ∧ (∀ (j : Nat) (k : Str) (a : Addr), wd.all[j]? = some k → ad[j]? = some a → valV kL (Sum.inr k) = some (.ref a)) ∧
    ad.length = wd.all.length ∧ ∃ tr, HInv K U s.P wd.all ad tr F F ∧ ∀ t, t ∈ tr ↔ t ∈ trip wd.m s.A
structure HeC (K : PySem.W.Frag) (C : Addr) : Prop where
  cl : Cls K C
  nS : NoAttr K C "speech"
  nW : NoAttr K C "wall"
  nU : NoAttr K C "unheard"
  nL : NoAttr K C "led"
def spNeedSp (K : PySem.W.Frag) (CS : Addr) : Sp := fun vs H Q _ => ∃ (F : Hp) (x : Addr) (y : V) (s : SpD), vs = [.ref x, y] ∧ Sees F H ∧ SpAt K CS F x s ∧ ∀ F' H', Gr [] F H F' H' → Q .non H'
def spNeedWa (K : PySem.W.Frag) (CS CW : Addr) : Sp := fun vs H Q _ => ∃ (F : Hp) (x y : Addr) (s : SpD) (wd : WaD), vs = [.ref y, .ref x] ∧ Sees F H ∧ SpAt K CS F x s ∧ WaAt K CW F y wd ∧ s.A.length ≤ 2000 ∧ (∀ z ∈ s.Z, z ∈ wd.ks) ∧ ∀ F' H', Gr [] F H F' H' → Q .non H'
section
variable {P : Program} {w : World} {K : PySem.W.Frag} {mg : Str → Option Value} {base : Heap}
theorem ok_need_speech {f CS : Addr} {fd : FuncData} (F : FunD K "need_speech" "need_speech" (defArgs s_need_speech) (defBody s_need_speech) (defScope s_need_speech) [.str "speech"] [] f fd) (T : Txt mg) (g_Speech : mg "Speech" = some (.ref CS)) (IS : InsC K CS) : FnOk P w K mg base CX0 1 f fd ["value", "part"] (spNeedSp K CS) := by
  refine okD F sc_need_speech (fun vs H Q E h => ?_) (fun cdv A outer s H vs Q E hr h => ?_)
  · obtain ⟨F0, x, y, s, rfl, _⟩ := h
    rfl
  · obtain ⟨F0, x, y, s, rfl, fs, ⟨⟨dx, va, vs, vp, vz, vd, hx, _⟩, _⟩, q⟩ := h
    refine ⟨_, (pss_one (ps_if (pt_not (pt_val (pe_callB (cr_isi K) (by rfl) T.isinstance bt_isinstance (pa_cons (pv 0) (pa_cons (zown g_Speech) pa_nil)))))
        (pss_one ps_never)
        pss_nil)), ?_⟩
    exact ⟨_, rfl, isi_own IS (sees_i fs hx) ⟨_, rfl, iteF (q _ _ (Gr.refl fs))⟩⟩
theorem ok_need_wall {f CS CW : Addr} {fd : FuncData} (F : Fun K "need_wall" "need_wall" s_need_wall f fd) (T : Txt mg) (g_Wall : mg "Wall" = some (.ref CW)) (IW : InsC K CW) (TS : SpC K CS) (TW_ : WaC K CW) : FnOk P w K mg base CX0 2 f fd ["value", "speech"] (spNeedWa K CS CW) := by
  refine F.ok sc_need_wall (fun vs H Q E h => ?_) (fun cdv A outer s H vs Q E hr h => ?_)
  · obtain ⟨F0, x, y, s, wd, rfl, _⟩ := h
    rfl
  · obtain ⟨F0, x, y, s, wd, rfl, fs, ⟨⟨dx, va, vs, vp, vz, vd, hx, hA, hS, hP, hZ, _⟩, oks⟩, ⟨⟨dy, D, vs', va', kvs, hy, hD, tl, _⟩, _⟩, zA, sub, q⟩ := h
    have hu := hu_of hr
    refine ⟨_, (pss_cons (ps_if (pt_not (pt_val (pe_callB (cr_isi K) (by rfl) T.isinstance bt_isinstance (pa_cons (pv 0) (pa_cons (zown g_Wall) pa_nil)))))
        (pss_one ps_never)
        pss_nil)
      (pss_one (ps_if (pt_not (pt_val (pe_callB (cr_allD K) (by rfl) T.all bt_all (pa_cons (pe_lc (own := [("sound", 2)]) rfl sc_need_wall.nd (zseq K (zfld K (pv 1))) (blkOk_by (N := sc_need_wallN) (sc := defScope s_need_wall) (by decide +kernel)) (fun _ _ _ _ _ => (zg (i := 2) sc_need_wall.nd)) (fun _ _ _ _ _ => pts_nil) (fun _ _ _ _ _ => (pe_cmp (pc_din hu (pv 2) (zfld K (pv 0)))))) pa_nil))))
        (pss_one ps_never)
        pss_nil))), ?_⟩
    refine ⟨_, rfl, isi_own IW (sees_i fs hy) ⟨_, rfl, iteF ?_⟩⟩
    refine ⟨_, rfl, x, CS, dx, _, _, rfl, sees_i fs hx, TS.cl, TS.nZ, rfl, ?_⟩
    refine seq_walk hZ (.inr rfl) fs fun J xs G w1 hG hxs hlen E hE => ?_
    have zl := oks.zlen
    refine lc_seqB (bs := s.Z) (enc := .str) (f := fun _ => true) w1 hxs fs hG (by omega) (fun b v F' H' hb g2 hv => turn1 rfl fun Yes h => ?_) hE fun F2 H2 g2 fE hEc => ?_
    · rw [dp_str] at hv
      subst hv
      obtain ⟨v', v1, v2⟩ := tl.va b (sub b hb)
      refine ⟨_, rfl, _, rfl, y, CW, dy, _, _, rfl, g2.at (sees_i fs hy), TW_.cl, TW_.nM, rfl, D, _, rfl, .inl ⟨kvs, Sum.inr b, sees_d g2.fh (g2.ff _ _ hD), rfl, rfl⟩, ?_⟩
      rw [v1]
      exact h _ _ _ (Gr.refl g2.fh) rfl
    · refine all_new hEc ⟨_, rfl, ?_⟩
      rw [List.all_map, show s.Z.all (id ∘ fun _ => true) = true from List.all_eq_true.mpr fun z h => rfl]
      exact iteF (q _ _ g2)
def spHeI (K : PySem.W.Frag) (CH CS CW : Addr) : Sp := fun vs H Q _ => ∃ (F : Hp) (x dx sx wx : Addr) (s : SpD) (wd : WaD), vs = [.ref x, .ref sx, .ref wx] ∧ H x = some (.ins CH dx []) ∧ F x = none ∧ Sees F H ∧ SpAt K CS F sx s ∧ WaAt K CW F wx wd ∧
  s.A.length ≤ 2000 ∧ s.P.length ≤ 4000 ∧ wd.all.length ≤ 4000 ∧ (∀ k ∈ wd.ks, (wd.m k).length ≤ 6) ∧ (∀ z ∈ s.Z, z ∈ wd.ks) ∧
  ∀ (F' H' : Hp), Gr [x] F H F' H' → F' x = none → HeAt K CH CS CW (upd F' x ((H' x).getD (.own 0))) x s wd → Q .non H'
theorem ok_Hearing_init {f CH CS CW : Addr} {fd : FuncData} (F : Fun K "__init__" "Hearing.__init__" s_Hearing___init__ f fd) (T : Txt mg) (TH : HeC K CH) (TS : SpC K CS) (TW_ : WaC K CW) :
    FnOk P w K mg base CX0 1 f fd ["self", "speech", "wall"] (spHeI K CH CS CW) := by
  refine F.ok sc_Hearing___init__ (fun vs H Q E h => ?_) (fun cdv A outer s H vs Q E hr h => ?_)
  · obtain ⟨F0, x, dx, sx, wx, s, wd, rfl, _⟩ := h
    rfl
  · obtain ⟨F0, x, dx, sx, wx, s, wd, rfl, hx, fx, fs, hsp, hwa, zA, zP, zL, zm, sub, q⟩ := h
    obtain ⟨⟨ds, va, vs, vp, vz, vd, hsx, hA, hS, hP, hZ⟩, oks⟩ := hsp
    obtain ⟨⟨dw, D, vs', va', kvs, hwx, hD, tl, hL⟩, okw⟩ := hwa
    have hu := hu_of hr
    refine ⟨_, (pss_cons (ps_fld (pv 0) (pv 1) rfl)
      (pss_cons (ps_fld (pv 0) (pv 2) rfl)
      (pss_cons (ps_fld (pv 0) (pe_dc (own := [("place", 3)]) rfl sc_Hearing___init__.nd (zseq K (zfld K (pv 1))) (blkOk_by (N := sc_Hearing___init__N) (sc := defScope s_Hearing___init__) (by decide +kernel)) (fun _ _ _ _ _ => (zg (i := 3) sc_Hearing___init__.nd)) (fun _ _ _ _ _ => pts_nil) (fun _ _ _ _ _ => (pv 3)) (fun _ _ _ _ _ => (pe_tup pa_nil))) rfl)
      (pss_cons (ps_fld (pv 0) (pe_dc (own := [("mark", 4)]) rfl sc_Hearing___init__.nd (zseq K (zfld K (pv 2))) (blkOk_by (N := sc_Hearing___init__N) (sc := defScope s_Hearing___init__) (by decide +kernel)) (fun _ _ _ _ _ => (zg (i := 4) sc_Hearing___init__.nd)) (fun _ _ _ _ _ => pts_nil) (fun _ _ _ _ _ => (pv 4)) (fun _ _ _ _ _ => pe_dnewK)) rfl)
      (pss_one (ps_for PassesOwn.never rfl (zseq K (zfld K (pv 1))) (zpg (n := 3) K (pgs_cons (zg (i := 3) sc_Hearing___init__.nd) (pgs_cons (zg (i := 5) sc_Hearing___init__.nd) (pgs_cons (zg (i := 6) sc_Hearing___init__.nd) pgs_nil))))
        (pss_one (ps_for PassesOwn.never rfl (zseq K (pe_dget hu (zfld K (pv 2)) (pv 5) (fun _ _ => rfl))) (zg (i := 4) sc_Hearing___init__.nd)
          (pss_one (ps_if (pt_cmpR op_eq (pv 4) pe_str (nomark _))
            (pss_one (ps_dput hu (zfld K (pv 0)) (pv 3) (pe_tup (zstar K (pe_dget hu (zfld K (pv 0)) (pv 3) (fun _ _ => rfl)) (pa_cons (pv 6) pa_nil))) rfl))
            (pss_one (ps_dput hu (pe_dget hu (zfld K (pv 0)) (pv 4) (fun _ _ => rfl)) (pv 3) (pe_tup (zstar K (pe_dget2 hu (pe_dget hu (zfld K (pv 0)) (pv 4) (fun _ _ => rfl)) (pv 3) (pe_tup pa_nil) (m2_of rfl)) (pa_cons (pv 6) pa_nil))) rfl)))))))))))), ?_⟩
    have lz : 100000 < sizeLine := by rw [sizeLine_eq]; decide
    -- speech, wall
    refine ⟨_, rfl, _, rfl, x, CH, dx, [], rfl, hx, TH.cl, TH.nS, by show 0 < 1000; decide, ?_⟩
    have g1 := (Gr.refl (B := [x]) fs).mut (o := .ins CH dx (putF "speech" (.ref sx) [])) fx (.inl (List.mem_singleton.mpr rfl))
    refine ⟨_, rfl, _, rfl, x, CH, dx, _, rfl, upd_same, TH.cl, TH.nW, by show 1 < 1000; decide, ?_⟩
    have g2 := g1.mut (o := .ins CH dx (putF "wall" (.ref wx) (putF "speech" (.ref sx) []))) fx (.inl (List.mem_singleton.mpr rfl))
    have c2 : upd (upd H x (.ins CH dx (putF "speech" (.ref sx) []))) x (.ins CH dx (putF "wall" (.ref wx) (putF "speech" (.ref sx) []))) x = some (.ins CH dx (putF "wall" (.ref wx) (putF "speech" (.ref sx) []))) := upd_same
    generalize upd (upd H x (.ins CH dx (putF "speech" (.ref sx) []))) x (.ins CH dx (putF "wall" (.ref wx) (putF "speech" (.ref sx) []))) = H2 at g2 c2 ⊢
    clear g1
    -- unheard
    refine ⟨_, rfl, sx, CS, ds, _, _, rfl, sees_i g2.fh hsx, TS.cl, TS.nP, rfl, ?_⟩
    refine seq_walk hP (.inr rfl) g2.fh fun J xs G w1 hG hxs hlen U hU => ?_
    rw [hlen, List.length_map] at w1
    refine dc_st w1 g2.fh (fun i acc F' H' => acc.map (·.1) = (s.P.take i).map Sum.inl ∧ ∀ p ∈ s.P.take i, ∃ v, valV acc (Sum.inl p) = some v ∧ Dp K F' v (.tuple [])) (fun _ _ _ _ _ h _ _ => h) (fun i acc F' H' _ gr _ => hG H' (sees_gr gr))
      ⟨rfl, by simp⟩ (by omega) (fun i acc x' F' H' H'' hi hl gr fD hDc pv y => ?_) hU fun acc F3 H3 gr fU hUc pv => ?_
    · obtain ⟨rfl, hxi⟩ := y
      obtain ⟨d, h1, h2⟩ := hxs.get hxi
      rw [List.getElem?_map] at h1
      obtain ⟨b, hb, rfl⟩ := Option.map_eq_some_iff.mp h1
      rw [dp_int] at h2
      subst h2
      refine ⟨F', Gr.refl gr.fh, turnD1 rfl fun Yes h => ⟨_, rfl, Nat.zero_le _, fun p hp => h (Sum.inl b) _ _ _ ((Gr.refl gr.fh).new hp) ?_⟩⟩
      have e1 := Ex.new (o := HO.tup []) (gr.fh.dm hp)
      have tk : s.P.take (i + 1) = s.P.take i ++ [b] := by rw [List.take_add_one, hb]; rfl
      have nb : b ∉ s.P.take i := by
        have z := (oks.asc.imp (fun h e => Int.ne_of_lt h e) : s.P.Nodup).sublist (List.take_sublist (i + 1) s.P)
        rw [tk] at z
        exact fun h => (List.nodup_append.mp z).2.2 b h b (by simp) rfl
      have vn : valV acc (Sum.inl b) = none := by
        cases e : valV acc (Sum.inl b) with
        | none => rfl
        | some v =>
          have z := valV_in e
          rw [pv.1, List.mem_map] at z
          obtain ⟨y, y1, y2⟩ := z
          cases y2
          exact absurd y1 nb
      refine ⟨by rw [putK_new _ vn, List.map_append, pv.1, tk, List.map_append]; rfl, fun p' hp' => ?_⟩
      rw [valV_put]
      by_cases e : p' = b
      · subst e
        exact ⟨.ref p, by rw [if_pos rfl], .tup (.inl (.inl upd_same)) .nil⟩
      · rw [if_neg fun z => e (Sum.inl.inj z)]
        rw [tk, List.mem_append, List.mem_singleton] at hp'
        obtain ⟨v, v1, v2⟩ := pv.2 p' (hp'.resolve_right e)
        exact ⟨v, v1, v2.ex e1⟩
    rw [List.take_length] at pv
    obtain ⟨ke, pv⟩ := pv
    have g3 := g2.trans gr (fun b hb => absurd hb (by simp))
    have nU : H U = none := g2.dm _ hU
    have xU : U ≠ x := fun e => by rw [e, hx] at nU; cases nU
    have c3 := gr.at c2
    have fx3 := gr.none' fx (by rw [c2]; exact fun z => nomatch z)
    clear gr w1 hG
    refine ⟨_, rfl, x, CH, dx, _, rfl, c3, TH.cl, TH.nU, by show 2 < 1000; decide, ?_⟩
    have g4 := g3.mut (o := .ins CH dx (putF "unheard" (.ref U) (putF "wall" (.ref wx) (putF "speech" (.ref sx) [])))) fx3 (.inl (List.mem_singleton.mpr rfl))
    have c4 : upd H3 x (.ins CH dx (putF "unheard" (.ref U) (putF "wall" (.ref wx) (putF "speech" (.ref sx) [])))) x = some (.ins CH dx (putF "unheard" (.ref U) (putF "wall" (.ref wx) (putF "speech" (.ref sx) [])))) := upd_same
    have u4 : upd H3 x (.ins CH dx (putF "unheard" (.ref U) (putF "wall" (.ref wx) (putF "speech" (.ref sx) [])))) U = some (.dK acc) := by rw [upd_ne xU]; exact hUc
    generalize upd H3 x (.ins CH dx (putF "unheard" (.ref U) (putF "wall" (.ref wx) (putF "speech" (.ref sx) [])))) = H4 at g4 c4 u4 ⊢
    clear g3 c3 hUc
    -- led
    refine ⟨_, rfl, wx, CW, dw, _, _, rfl, sees_i g4.fh (g4.ff _ _ hwx), TW_.cl, TW_.nA, rfl, ?_⟩
    refine seq_walk (hL.ex g4.ff) (.inr rfl) g4.fh fun J2 ys G2 w2 hG2 hys hlen2 L hL0 => ?_
    rw [hlen2, List.length_map] at w2
    refine dc_st w2 g4.fh (fun i acc F' H' => ∃ ad : List Addr, ad.length = i ∧ acc.map (·.1) = (wd.all.take i).map Sum.inr ∧ (∀ (j : Nat) (k : Str) (a : Addr), wd.all[j]? = some k → ad[j]? = some a → valV acc (Sum.inr k) = some (.ref a)) ∧
        (∀ a ∈ ad, H' a = some (.dK []) ∧ H4 a = none ∧ F' a = none ∧ a ≠ L) ∧ ad.Nodup) (fun i acc F' H' o ⟨ad, h1, h2, h3, h4, h5⟩ _ _ => ⟨ad, h1, h2, h3, fun a ha => ⟨by rw [upd_ne (h4 a ha).2.2.2]; exact (h4 a ha).1, (h4 a ha).2⟩, h5⟩) (fun i acc F' H' _ gr _ => hG2 H' (sees_gr gr))
      ⟨[], rfl, rfl, fun j k a _ h => by simp at h, fun a h => by simp at h, List.nodup_nil⟩ (by omega) (fun i acc x' F' H' H'' hi hl gr fD hDc ⟨ad, h1, h2, h3, h4, h5⟩ y => ?_) hL0 fun kL F5 H5 gr fL hLc ⟨ad, h1, h2, h3, h4, h5⟩ => ?_
    · obtain ⟨rfl, hxi⟩ := y
      obtain ⟨d, k1, k2⟩ := hys.get hxi
      rw [List.getElem?_map] at k1
      obtain ⟨b, hb, rfl⟩ := Option.map_eq_some_iff.mp k1
      rw [dp_str] at k2
      subst k2
      refine ⟨F', Gr.refl gr.fh, turnD1 rfl fun Yes h => ⟨_, rfl, fun p hp => h (Sum.inr b) _ _ _ ((Gr.refl gr.fh).newM hp) ?_⟩⟩
      have tk : wd.all.take (i + 1) = wd.all.take i ++ [b] := by rw [List.take_add_one, hb]; rfl
      have nb : b ∉ wd.all.take i := by
        have z := okw.an.sublist (List.take_sublist (i + 1) wd.all)
        rw [tk] at z
        exact fun h => (List.nodup_append.mp z).2.2 b h b (by simp) rfl
      have vn : valV acc (Sum.inr b) = none := by
        cases e : valV acc (Sum.inr b) with
        | none => rfl
        | some v =>
          have z := valV_in e
          rw [h2, List.mem_map] at z
          obtain ⟨y, y1, y2⟩ := z
          cases y2
          exact absurd y1 nb
      have pn : ∀ a ∈ ad, a ≠ p := fun a ha => ne_of_none (h4 a ha).1 hp
      refine ⟨ad ++ [p], by simp [h1], by rw [putK_new _ vn, List.map_append, h2, tk, List.map_append]; rfl, fun j k a hk ha => ?_, fun a ha => ?_, ?_⟩
      · rw [valV_put]
        by_cases e : k = b
        · subst e
          have ej : j = i := (List.getElem?_inj (List.getElem?_eq_some_iff.mp hk).1 okw.an).mp (hk.trans hb.symm)
          subst ej
          rw [if_pos rfl]
          rw [List.getElem?_append_right (by omega), h1, Nat.sub_self] at ha
          cases ha
          rfl
        · rw [if_neg fun z => e (Sum.inr.inj z)]
          refine h3 j k a hk ?_
          have hj := (List.getElem?_eq_some_iff.mp ha).1
          rw [List.length_append, List.length_singleton, h1] at hj
          have hj' : j ≠ i := fun z => by subst z; rw [hk] at hb; exact e (Option.some.inj hb)
          rw [List.getElem?_append_left (by omega)] at ha
          exact ha
      · rw [List.mem_append, List.mem_singleton] at ha
        rcases ha with ha | rfl
        · exact ⟨by rw [upd_ne (pn a ha)]; exact (h4 a ha).1, (h4 a ha).2⟩
        · exact ⟨upd_same, gr.dm _ hp, gr.fh.dm hp, Ne.symm (ne_of_none hDc hp)⟩
      · rw [List.nodup_append]
        exact ⟨h5, by simp, fun a ha b hb => by rw [List.mem_singleton.mp hb]; exact pn a ha⟩
    rw [List.take_length] at h2
    have nL : H L = none := g4.dm _ hL0
    have xL : L ≠ x := fun e => by rw [e, hx] at nL; cases nL
    have UL : U ≠ L := ne_of_none u4 hL0
    have g5 := (g4.trans gr (fun b hb => absurd hb (by simp)))
    have c5 := gr.at c4
    have u5 := gr.at u4
    have fx5 := gr.none' fx3 (by rw [c4]; exact fun z => nomatch z)
    have fU5 := gr.none' fU (by rw [u4]; exact fun z => nomatch z)
    have e5 := gr.ff
    have h6 : ∀ a ∈ ad, H5 a = some (.dK []) ∧ H a = none ∧ F5 a = none ∧ a ≠ L ∧ a ≠ x ∧ a ≠ U := fun a ha => ⟨(h4 a ha).1, g4.dm _ (h4 a ha).2.1, (h4 a ha).2.2.1, (h4 a ha).2.2.2, Ne.symm (ne_of_none c4 (h4 a ha).2.1), Ne.symm (ne_of_none u4 (h4 a ha).2.1)⟩
    clear h4 gr g4 c4 u4 w2 hG2
    refine ⟨_, rfl, x, CH, dx, _, rfl, c5, TH.cl, TH.nL, by show 3 < 1000; decide, ?_⟩
    have g6 := (g5.done nL fL hLc).mut (o := .ins CH dx (heF (.ref sx) (.ref wx) (.ref U) (.ref L))) (p := x) (by rw [upd_ne (Ne.symm xL)]; exact fx5) (.inl (List.mem_singleton.mpr rfl))
    have e6 : Ex F3 (upd F5 L (.dK kL)) := e5.trans (Ex.new fL)
    have c6 : upd H5 x (.ins CH dx (heF (.ref sx) (.ref wx) (.ref U) (.ref L))) x = some (.ins CH dx (heF (.ref sx) (.ref wx) (.ref U) (.ref L))) := upd_same
    have u6 : upd H5 x (.ins CH dx (heF (.ref sx) (.ref wx) (.ref U) (.ref L))) U = some (.dK acc) := by rw [upd_ne xU]; exact u5
    have l6 : upd F5 L (.dK kL) L = some (.dK kL) := upd_same
    have fx6 : upd F5 L (.dK kL) x = none := by rw [upd_ne (Ne.symm xL)]; exact fx5
    have fU6 : upd F5 L (.dK kL) U = none := by rw [upd_ne UL]; exact fU5
    have h7 : ∀ a ∈ ad, upd H5 x (.ins CH dx (heF (.ref sx) (.ref wx) (.ref U) (.ref L))) a = some (.dK []) ∧ H a = none ∧ upd F5 L (.dK kL) a = none ∧ a ≠ x ∧ a ≠ U := fun a ha => by
      obtain ⟨q1, q2, q3, q4, q5, q6⟩ := h6 a ha
      exact ⟨by rw [upd_ne q5]; exact q1, q2, by rw [upd_ne q4]; exact q3, q5, q6⟩
    generalize upd H5 x (.ins CH dx (putF "led" (.ref L) (putF "unheard" (.ref U) (putF "wall" (.ref wx) (putF "speech" (.ref sx) []))))) = H6 at g6 c6 u6 h7 ⊢
    generalize upd F5 L (.dK kL) = F6 at g6 e6 l6 fx6 fU6 h7
    clear h6 g5 c5 u5 fx5 fU5 e5 hLc
    have nUad : U ∉ ad := fun h => (h7 U h).2.2.2.2 rfl
    have nEm : ("" : Str) ∉ wd.all := fun h => ((okw.al _).mp h).1 rfl
    have lP : acc.length = s.P.length := by
      have z := congrArg List.length ke
      rwa [List.length_map, List.length_map] at z
    have h0 : HInv K U s.P wd.all ad [] F6 H6 := ⟨⟨acc, u6, by simp; omega, fun p hp => by
        obtain ⟨v, v1, v2⟩ := pv p hp
        exact ⟨v, [], v1, v2.ex e6, Nat.zero_le _, by simp⟩⟩, fun j k a hk ha => ⟨[], (h7 a (List.mem_of_getElem? ha)).1, Nat.zero_le _, fun p => ⟨[], .inl ⟨rfl, rfl⟩, Nat.zero_le _, by simp⟩⟩⟩
    have eA : Ex F0 F6 := g6.ff
    have hxB : x ∉ U :: ad := fun h => by
      rcases List.mem_cons.mp h with h | h
      · exact xU h.symm
      · exact (h7 x h).2.2.2.1 rfl
    have fB : ∀ a ∈ U :: ad, F6 a = none ∧ H a = none ∧ ¬ IsNT (H6 a) := fun a h => by
      rcases List.mem_cons.mp h with rfl | h
      · exact ⟨fU6, nU, by rw [u6]; exact fun z => nomatch z⟩
      · exact ⟨(h7 a h).2.2.1, (h7 a h).2.1, by rw [(h7 a h).1]; exact fun z => nomatch z⟩
    clear pv u6 fU6 h7
    -- the arrows
    refine ⟨_, rfl, sx, CS, ds, _, _, rfl, sees_i g6.fh (eA _ _ hsx), TS.cl, TS.nA, rfl, ?_⟩
    refine seq_walk (hA.ex eA) (.inr rfl) g6.fh fun J3 zs G3 w3 hG3 hzs hlen3 => ?_
    rw [hlen3, List.length_map] at w3
    refine for_it w3 (fun i σ' H' => ∃ (o3 o4 o5 o6 : Option V) (F' : Hp), σ' = [some (.ref x), some (.ref sx), some (.ref wx), o3, o4, o5, o6] ∧ Gr (U :: ad) F6 H6 F' H' ∧ HInv K U s.P wd.all ad (trip wd.m (s.A.take i)) F' H')
      ⟨none, none, none, none, F6, rfl, Gr.refl g6.fh, by rw [List.take_zero]; exact h0⟩ (fun i σ' H' _ ⟨_, _, _, _, F', _, g, _⟩ => hG3 H' (fun a o e => g.fh a o (g.ff a o e))) ?_ ?_
    · rintro i y σ' H' H'' hi ⟨o3, o4, o5, o6, F', rfl, g, iv⟩ ⟨rfl, hyi⟩
      obtain ⟨d, k1, k2⟩ := hzs.get hyi
      rw [List.getElem?_map] at k1
      obtain ⟨⟨p, z, r⟩, hb, rfl⟩ := Option.map_eq_some_iff.mp k1
      obtain ⟨T1, xs1, rfl, hT, hx1⟩ := dp_tup (k2.ex g.ff)
      obtain rfl := dps3 hx1
      have am : (p, z, r) ∈ s.A := List.mem_of_getElem? hb
      have pP : p ∈ s.P := (oks.pl p).mpr (.inr (.inl ⟨_, am, rfl⟩))
      have zk : z ∈ wd.ks := sub z ((oks.so z).mpr ⟨_, am, rfl⟩)
      have m6 := zm z zk
      have tl0 : (trip wd.m (s.A.take i)).length ≤ 12000 := by
        have z1 := trip_len (m := wd.m) (A := s.A.take i) fun b hb => zm _ (sub _ ((oks.so _).mpr ⟨b, List.mem_of_mem_take hb, rfl⟩))
        rw [List.length_take] at z1
        omega
      have tS : trip wd.m (s.A.take (i + 1)) = trip wd.m (s.A.take i) ++ (wd.m z).map fun k => (p, k, r) := by
        rw [List.take_add_one, hb]
        exact trip_snoc
      have sF : Sees F' H'' := g.fh
      have gh : ∀ {a : Addr} {o : HO}, F6 a = some o → F' a = some o := fun e => g.ff _ _ e
      refine ⟨T1, _, rfl, sees_t sF hT, rfl, _, _, rfl, _, _, rfl, _, _, rfl, rfl, ?_⟩
      obtain ⟨v', v1, v2⟩ := tl.va z zk
      refine ⟨_, rfl, wx, CW, dw, _, _, rfl, sees_i sF (gh (eA _ _ hwx)), TW_.cl, TW_.nM, rfl, _, rfl, D, v', rfl, .inl ⟨kvs, Sum.inr z, sees_d sF (gh (eA _ _ hD)), rfl, v1.symm⟩, ?_⟩
      refine seq_walk ((v2.ex eA).ex g.ff) (.inr rfl) sF fun J4 us G4 w4 hG4 hus hlen4 => ?_
      rw [hlen4, List.length_map] at w4
      refine for_it w4 (fun j σ' H2 => ∃ (o4 : Option V) (F2 : Hp), σ' = [some (.ref x), some (.ref sx), some (.ref wx), some (.int p), o4, some (.str z), some (.int r)] ∧ Gr (U :: ad) F' H'' F2 H2 ∧ HInv K U s.P wd.all ad (trip wd.m (s.A.take i) ++ ((wd.m z).take j).map fun k => (p, k, r)) F2 H2)
        ⟨o4, F', rfl, Gr.refl sF, by simpa using iv⟩ (fun j σ' H2 _ ⟨_, F2, _, g2, _⟩ => hG4 H2 (fun a o e => g2.fh a o (g2.ff a o e))) ?_ ?_
      · rintro j y σ' H2 H2' hj ⟨o4, F2, rfl, g2, iv2⟩ ⟨rfl, hyj⟩
        obtain ⟨d, q1, q2⟩ := hus.get hyj
        rw [List.getElem?_map] at q1
        obtain ⟨k, hk, rfl⟩ := Option.map_eq_some_iff.mp q1
        rw [dp_str] at q2
        subst q2
        have tk : ((wd.m z).take (j + 1)).map (fun k => (p, k, r)) = ((wd.m z).take j).map (fun k => (p, k, r)) ++ [(p, k, r)] := by rw [List.take_add_one, hk, List.map_append]; rfl
        rw [tk, ← List.append_assoc]
        have tl1 : (trip wd.m (s.A.take i) ++ ((wd.m z).take j).map fun k => (p, k, r)).length ≤ 12010 := by
          rw [List.length_append, List.length_map, List.length_take]
          omega
        generalize trip wd.m (s.A.take i) ++ ((wd.m z).take j).map (fun k => (p, k, r)) = tr at iv2 tl1 ⊢
        have gg := g.trans g2 (fun b hb => .inl hb)
        have cx := gg.hh x _ hxB c6
        refine ⟨_, rfl, rfl, _, rfl, ?_⟩
        by_cases e : k = ""
        · subst e
          refine iteYes (decide_eq_true rfl) ?_
          obtain ⟨kU, hU', lU, cU⟩ := iv2.u
          obtain ⟨v, l, y1, y2, y3, y4⟩ := cU p pP
          obtain ⟨po, xo, rfl, hso, hxo⟩ := dp_tup y2
          have lxo : xo.length ≤ 12010 := by rw [hxo.length, List.length_map]; omega
          refine ⟨_, rfl, x, CH, dx, _, _, rfl, cx, TH.cl, TH.nU, rfl, _, rfl, U, .ref po, rfl, .inl ⟨kU, Sum.inl p, .inl hU', rfl, y1.symm⟩, ?_⟩
          refine ⟨po, xo, rfl, .inl (sees_t g2.fh hso), _, rfl, by simp; omega, fun t1 ht1 => ?_⟩
          have gc := g2.new (o := .tup (xo ++ [.int r])) ht1
          have e1 := Ex.new (o := HO.tup (xo ++ [.int r])) (g2.fh.dm ht1)
          refine ⟨_, rfl, x, CH, dx, _, _, rfl, by rw [upd_ne (ne_of_none cx ht1)]; exact cx, TH.cl, TH.nU, rfl, _, rfl, U, _, rfl, DPut.k (k := Sum.inl p) (by rw [upd_ne (ne_of_none hU' ht1)]; exact hU') (by omega), ?_⟩
          have fU2 := gg.none' (fB U List.mem_cons_self).1 (fB U List.mem_cons_self).2.2
          refine ⟨_, _, rfl, gc.mut (by rw [upd_ne (ne_of_none hU' ht1)]; exact fU2) (.inl List.mem_cons_self), ?_⟩
          exact ((iv2.ex e1).heap fun a o _ ha => by rw [upd_ne (ne_of_none ha ht1)]; exact ha).putU (by rw [upd_ne (ne_of_none hU' ht1)]; exact hU') y3 y4 (.tup (.inl (.inl upd_same)) (by rw [List.map_append]; exact (hxo.append (.cons (.int _) .nil)).ex e1)) nUad nEm
        · refine iteNo (by rw [decide_eq_true_eq]; exact fun q => e (V.str.inj q)) ?_
          obtain ⟨j', hk'⟩ := List.mem_iff_getElem?.mp ((okw.al k).mpr ⟨e, z, zk, List.mem_of_getElem? hk⟩)
          have hj' : j' < ad.length := by rw [h1]; exact (List.getElem?_eq_some_iff.mp hk').1
          obtain ⟨a, ha'⟩ : ∃ a, ad[j']? = some a := ⟨_, List.getElem?_eq_getElem hj'⟩
          have haB : a ∈ U :: ad := List.mem_cons_of_mem _ (List.mem_of_getElem? ha')
          obtain ⟨kD, hDa, lD, cD⟩ := iv2.d j' k a hk' ha'
          obtain ⟨l, y1, y3, y4⟩ := cD p
          have vL := h3 j' k a hk' ha'
          have rL : ∀ {F2 H2 : Hp}, Gr (U :: ad) F6 H6 F2 H2 → Rd H2 L (.dK kL) := fun g => sees_d (fun a o e => g.fh a o e) (g.ff _ _ l6)
          refine ⟨_, rfl, x, CH, dx, _, _, rfl, cx, TH.cl, TH.nL, rfl, _, rfl, L, .ref a, rfl, .inl ⟨kL, Sum.inr k, rL gg, rfl, vL.symm⟩, ?_⟩
          refine ⟨a, rfl, .inl ⟨kD, .inl hDa⟩, _, rfl, Nat.zero_le _, fun t0 ht0 => ⟨_, DGet.k (k := Sum.inl p) (by rw [upd_ne (ne_of_none hDa ht0)]; exact hDa), ?_⟩⟩
          have ga := g2.new (o := .tup []) ht0
          have gga := gg.new (o := .tup []) ht0
          have e0 := Ex.new (o := HO.tup []) (g2.fh.dm ht0)
          have iv3 := (iv2.ex e0).heap (H' := upd H2' t0 (.tup [])) fun a o _ ha => by rw [upd_ne (ne_of_none ha ht0)]; exact ha
          have hDb : upd H2' t0 (.tup []) a = some (.dK kD) := by rw [upd_ne (ne_of_none hDa ht0)]; exact hDa
          have cxb := gga.hh x _ hxB c6
          have ho : Dp K (upd F2 t0 (.tup [])) ((valV kD (Sum.inl p)).getD (.ref t0)) (.tuple (l.map .int)) := by
            rcases y1 with ⟨y1, rfl⟩ | ⟨v, y1, y2⟩
            · rw [y1]
              exact .tup (.inl (.inl upd_same)) .nil
            · rw [y1]
              exact y2.ex e0
          generalize (valV kD (Sum.inl p)).getD (.ref t0) = vo at ho ⊢
          generalize upd H2' t0 (.tup []) = Hb at ga gga hDb cxb iv3 ⊢
          generalize upd F2 t0 (.tup []) = Fb at ga gga iv3 ho
          clear g2 gg iv2 hDa cD y1 cx
          obtain ⟨po, xo, rfl, hso, hxo⟩ := dp_tup ho
          have lxo : xo.length ≤ 12010 := by rw [hxo.length, List.length_map]; omega
          refine ⟨po, xo, rfl, .inl (sees_t ga.fh hso), _, rfl, by simp; omega, fun t1 ht1 => ?_⟩
          have gc := ga.new (o := .tup (xo ++ [.int r])) ht1
          have ggc := gga.new (o := .tup (xo ++ [.int r])) ht1
          have e1 := Ex.new (o := HO.tup (xo ++ [.int r])) (ga.fh.dm ht1)
          refine ⟨_, rfl, x, CH, dx, _, _, rfl, by rw [upd_ne (ne_of_none cxb ht1)]; exact cxb, TH.cl, TH.nL, rfl, _, rfl, L, .ref a, rfl, .inl ⟨kL, Sum.inr k, rL ggc, rfl, vL.symm⟩, ?_⟩
          refine ⟨_, rfl, a, _, rfl, DPut.k (k := Sum.inl p) (by rw [upd_ne (ne_of_none hDb ht1)]; exact hDb) (by omega), ?_⟩
          have fa2 := gga.none' (fB a haB).1 (fB a haB).2.2
          refine ⟨_, _, rfl, gc.mut (by rw [upd_ne (ne_of_none hDb ht1)]; exact fa2) (.inl haB), ?_⟩
          exact ((iv3.ex e1).heap fun a o _ ha => by rw [upd_ne (ne_of_none ha ht1)]; exact ha).putD hk' ha' (by rw [upd_ne (ne_of_none hDb ht1)]; exact hDb) y3 y4 (.tup (.inl (.inl upd_same)) (by rw [List.map_append]; exact (hxo.append (.cons (.int _) .nil)).ex e1)) nUad h5 okw.an e
      · rintro σ' H2 ⟨o4, F2, rfl, g2, iv2⟩
        rw [List.take_length] at iv2
        exact ⟨_, _, _, _, F2, rfl, g.trans g2 (fun b hb => .inl hb), by rw [tS]; exact iv2⟩
    · rintro σ' H' ⟨o3, o4, o5, o6, F', rfl, g, iv⟩
      rw [List.take_length] at iv
      have gT := g6.trans g (fun b hb => .inr (fB b hb).2.1)
      have cx := g.hh x _ hxB c6
      have fxx := g.none' fx6 (by rw [c6]; exact fun z => nomatch z)
      obtain ⟨F2, q1, q2, q3, q4⟩ := Gr.freeze (U :: ad) gT fun b hb => ⟨(fB b hb).2.1, .inl (g.none' (fB b hb).1 (fB b hb).2.2), fun z => (fB b hb).2.2 (by rw [g.dm b z]; exact .n)⟩
      have fx2 : F2 x = none := by rw [q4 x hxB]; exact fxx
      refine q F2 H' q1 fx2 ?_
      rw [cx, Option.getD_some]
      have eN := Ex.new (o := HO.ins CH dx (heF (.ref sx) (.ref wx) (.ref U) (.ref L))) fx2
      have eT := q2.trans eN
      have e0 := eA.trans (g.ff.trans eT)
      refine ⟨dx, sx, wx, U, L, ad, kL, upd_same, SpAt.ex' ⟨⟨ds, va, vs, vp, vz, vd, hsx, hA, hS, hP, hZ⟩, oks⟩ e0, WaAt.ex' ⟨⟨dw, D, vs', va', kvs, hwx, hD, tl, hL⟩, okw⟩ e0, eT _ _ (g.ff _ _ l6), h2, h3, h1, _, (iv.ex eT).heap (fun a o ha h => ?_), fun t => Iff.rfl⟩
      have hax : a ≠ x := fun e => hxB (by rw [← e]; exact ha)
      rw [upd_ne hax, q3 a ha]
      exact h
end
end TW
set_option Elab.async false
set_option linter.all false
set_option maxRecDepth 100000
set_option maxHeartbeats 8000000
/-! what a neighbour knows -/
namespace TW
open PySem PySem.Spec PyProof.Rows L2 RZ StX
open Evl (Ex)
/-- where unheard arrows lead to from S -/
inductive Reach (R : List (Int × Str × Int)) (S : List Int) : Int → Prop
  | base {k : Int} (h : k ∈ S) : Reach R S k
  | step {p q : Int} (h : Reach R S p) (e : (p, ("" : Str), q) ∈ R) : Reach R S q
theorem SpD.Ok.asc' {s : SpD} (h : s.Ok) : s.P.Nodup := h.asc.imp (fun h e => Int.ne_of_lt h e)
theorem SpD.Ok.to {s : SpD} (h : s.Ok) {m : Str → List Str} {p q : Int} {k : Str} (e : (p, k, q) ∈ trip m s.A) : q ∈ s.P := by
  obtain ⟨z, h1, _⟩ := mem_trip.mp e
  exact (h.pl q).mpr (.inr (.inr ⟨_, h1, rfl⟩))
/-- what a Hearing is for its readers -/
theorem HeAt.un {K : PySem.W.Frag} {CH CS CW : Addr} {F : Hp} {x : Addr} {s : SpD} {wd : WaD} (h : HeAt K CH CS CW F x s wd) : ∃ dx sx wx U L kU kL, F x = some (.ins CH dx (heF (.ref sx) (.ref wx) (.ref U) (.ref L))) ∧ SpAt K CS F sx s ∧ WaAt K CW F wx wd ∧ F U = some (.dK kU) ∧ F L = some (.dK kL) ∧
    (∀ p ∈ s.P, ∃ (v : V) (l : List Int), valV kU (Sum.inl p) = some v ∧ Dp K F v (.tuple (l.map .int)) ∧ ∀ q, q ∈ l ↔ (p, ("" : Str), q) ∈ trip wd.m s.A) ∧
    ∀ k ∈ wd.all, ∃ a kD, valV kL (Sum.inr k) = some (.ref a) ∧ F a = some (.dK kD) ∧ ∀ p, ∃ l : List Int, Holds K F kD p l ∧ ∀ q, q ∈ l ↔ (p, k, q) ∈ trip wd.m s.A := by
  obtain ⟨dx, sx, wx, U, L, ad, kL, h1, h2, h3, h4, h5, h6, h7, tr, ⟨⟨kU, u1, u2, u3⟩, hd⟩, ht⟩ := h
  refine ⟨dx, sx, wx, U, L, kU, kL, h1, h2, h3, u1, h4, fun p hp => ?_, fun k hk => ?_⟩
  · obtain ⟨v, l, q1, q2, q3, q4⟩ := u3 p hp
    exact ⟨v, l, q1, q2, fun q => (q4 q).trans (ht _)⟩
  · obtain ⟨j, hj⟩ := List.mem_iff_getElem?.mp hk
    have hj' : j < ad.length := by rw [h7]; exact (List.getElem?_eq_some_iff.mp hj).1
    obtain ⟨kD, q1, q2, q3⟩ := hd j k _ hj (List.getElem?_eq_getElem hj')
    refine ⟨_, kD, h6 j k _ hj (List.getElem?_eq_getElem hj'), q1, fun p => ?_⟩
    obtain ⟨l, r1, r2, r3⟩ := q3 p
    exact ⟨l, r1, fun q => (r3 q).trans (ht _)⟩
theorem HeAt.ex' {K : PySem.W.Frag} {CH CS CW : Addr} {F F' : Hp} {x : Addr} {s : SpD} {wd : WaD} (h : HeAt K CH CS CW F x s wd) (e : Ex F F') : HeAt K CH CS CW F' x s wd := by
  obtain ⟨dx, sx, wx, U, L, ad, kL, h1, h2, h3, h4, h5, h6, h7, tr, hi, ht⟩ := h
  exact ⟨dx, sx, wx, U, L, ad, kL, e _ _ h1, h2.ex' e, h3.ex' e, e _ _ h4, h5, h6, h7, tr, (hi.ex e).heap fun a o _ q => e _ _ q, ht⟩
/-- the walk of closed: ks found, ln in line -/
structure CInv (R : List (Int × Str × Int)) (P S : List Int) (D L : Addr) (ks ln : List Int) (H : Hp) : Prop where
  hd : ∃ kvs, H D = some (.dK kvs) ∧ kvs.map (·.1) = ks.map Sum.inl
  hl : H L = some (.lst (ln.map V.int))
  nd : ks.Nodup
  kp : ∀ z ∈ ks, z ∈ P ∧ Reach R S z
  sk : ∀ z ∈ S, z ∈ ks
  lk : ∀ z ∈ ln, z ∈ ks
theorem kv_none {kvs : List (Key × V)} {ks : List Int} {b : Int} (h : kvs.map (·.1) = ks.map Sum.inl) (n : b ∉ ks) : valV kvs (Sum.inl b) = none := by
  cases e : valV kvs (Sum.inl b) with
  | none => rfl
  | some v =>
    have z := valV_in e
    rw [h, List.mem_map] at z
    obtain ⟨y, y1, y2⟩ := z
    cases y2
    exact absurd y1 n
theorem kv_some {kvs : List (Key × V)} {ks : List Int} {b : Int} (h : kvs.map (·.1) = ks.map Sum.inl) (n : b ∈ ks) : (valV kvs (Sum.inl b)).isSome = true := by
  cases e : valV kvs (Sum.inl b) with
  | some v => rfl
  | none =>
    refine absurd ?_ (valV_not e)
    rw [h]
    exact List.mem_map.mpr ⟨b, n, rfl⟩
theorem kv_put {kvs : List (Key × V)} {ks : List Int} {b : Int} {v : V} (h : kvs.map (·.1) = ks.map Sum.inl) (n : b ∉ ks) : (putK kvs (Sum.inl b) v).map (·.1) = (ks ++ [b]).map Sum.inl := by
  rw [putK_new _ (kv_none h n), List.map_append, h, List.map_append]
  rfl
theorem kv_len {kvs : List (Key × V)} {ks : List Int} (h : kvs.map (·.1) = ks.map Sum.inl) : kvs.length = ks.length := by
  have z := congrArg List.length h
  rwa [List.length_map, List.length_map] at z
theorem kv_old {kvs : List (Key × V)} {ks : List Int} {b : Int} {v : V} (h : kvs.map (·.1) = ks.map Sum.inl) (n : b ∈ ks) : (putK kvs (Sum.inl b) v).map (·.1) = ks.map Sum.inl := by
  have e := valV_any (Sum.inl b : Key) kvs
  rw [kv_some h n] at e
  unfold putK
  rw [if_pos e, List.map_map, ← h]
  refine List.map_congr_left fun p _ => ?_
  show (if p.1 = Sum.inl b then (p.1, v) else p).1 = p.1
  split <;> rfl
def spBehind (K : PySem.W.Frag) (CH CS CW : Addr) : Sp := fun vs H Q _ => ∃ (F : Hp) (x : Addr) (v : V) (d : PyData) (S : List Int) (k : Str) (s : SpD) (wd : WaD), vs = [.ref x, v, .str k] ∧ Sees F H ∧ HeAt K CH CS CW F x s wd ∧ Dp K F v d ∧ isSeq d (S.map .int) ∧ k ∈ wd.all ∧ s.P.length < 64 ∧
  ∀ (r : V) (ns T : List Int) (F' H' : Hp), Gr [] F H F' H' → Dp K F' r (.tuple (ns.map .int)) → ns.Pairwise (· < ·) → (∀ z, z ∈ T ↔ ∃ p ∈ S, (p, k, z) ∈ trip wd.m s.A) → (∀ q, q ∈ ns ↔ Reach (trip wd.m s.A) T q) → Q r H'
def spBegun (K : PySem.W.Frag) (CH CS CW : Addr) : Sp := fun vs H Q _ => ∃ (F : Hp) (x : Addr) (s : SpD) (wd : WaD), vs = [.ref x] ∧ Sees F H ∧ HeAt K CH CS CW F x s wd ∧ s.S.Nodup ∧ s.P.length < 64 ∧
  ∀ (r : V) (ns : List Int) (F' H' : Hp), Gr [] F H F' H' → Dp K F' r (.tuple (ns.map .int)) → ns.Pairwise (· < ·) → (∀ q, q ∈ ns ↔ Reach (trip wd.m s.A) s.S q) → Q r H'
def spClosed (K : PySem.W.Frag) (CH CS CW : Addr) : Sp := fun vs H Q _ => ∃ (F : Hp) (x : Addr) (v : V) (d : PyData) (S : List Int) (s : SpD) (wd : WaD), vs = [.ref x, v] ∧ Sees F H ∧ HeAt K CH CS CW F x s wd ∧ Dp K F v d ∧ isSeq d (S.map .int) ∧ (∀ z ∈ S, z ∈ s.P) ∧ S.Nodup ∧ s.P.length < 64 ∧
  ∀ (r : V) (ns : List Int) (F' H' : Hp), Gr [] F H F' H' → Dp K F' r (.tuple (ns.map .int)) → ns.Pairwise (· < ·) → (∀ k, k ∈ ns ↔ Reach (trip wd.m s.A) S k) → Q r H'
section
variable {P : Program} {w : World} {K : PySem.W.Frag} {mg : Str → Option Value} {base : Heap}
theorem ok_closed {f CH CS CW : Addr} {fd : FuncData} (F : Fun K "closed" "Hearing.closed" s_Hearing_closed f fd) (T : Txt mg) (TH : HeC K CH) : FnOk P w K mg base CX0 1 f fd ["self", "places"] (spClosed K CH CS CW) := by
  refine F.ok sc_Hearing_closed (fun vs H Q E h => ?_) (fun cdv A outer s H vs Q E hr h => ?_)
  · obtain ⟨F0, x, v, d, S, s, wd, rfl, _⟩ := h
    rfl
  · obtain ⟨F0, x, v, d, S, s, wd, rfl, fs, he, hv, hq, sub, ndS, zP, q⟩ := h
    obtain ⟨dx, sx, wx, U, L, kU, kL, hx, hsp, hwa, hU, hL, un, _⟩ := he.un
    have oks := hsp.ok
    have hu := hu_of hr
    refine ⟨_, (pss_cons (zpar (i := 2) (j := 3) sc_Hearing_closed.nd (pa_cons (pe_dc (own := [("place", 4)]) rfl sc_Hearing_closed.nd (zseq K (pv 1)) (blkOk_by (N := sc_Hearing_closedN) (sc := defScope s_Hearing_closed) (by decide +kernel)) (fun _ _ _ _ _ => (zg (i := 4) sc_Hearing_closed.nd)) (fun _ _ _ _ _ => pts_nil) (fun _ _ _ _ _ => (pv 4)) (fun _ _ _ _ _ => pe_bl)) (pa_cons (pe_callTy (cr_list K) (by rfl) T.list bt_list (pa_cons (pv 1) pa_nil)) pa_nil)))
      (pss_cons (ps_while PassesOwn.never (ztruth K (pv 3))
        (pss_one (ps_for PassesOwn.never rfl (zseq K (pe_dget hu (zfld K (pv 0)) (pe_bm0 PySem.F.plainAttrs_list PySem.F.slot_list_pop PySem.F.type_list_pop mt_pop (pv 3)) (fun _ _ => rfl))) (zg (i := 5) sc_Hearing_closed.nd)
          (pss_one (ps_if (pt_cmp (pc_dnotin hu (pv 5) (pv 2)))
            (pss_cons (ps_dput hu (pv 2) (pv 5) pe_bl rfl)
            (pss_one (ps_expr (pe_bm PySem.F.plainAttrs_list PySem.F.slot_list_append PySem.F.type_list_append mt_append (pv 3) (pa_cons (pv 5) pa_nil)))))
            pss_nil)))))
      (pss_one (ps_ret (pe_callTy (cr_tuple K) (by rfl) T.tuple bt_tuple (pa_cons (pe_callB (call_sortedDI rfl) (by rfl) T.sorted bt_sorted (pa_cons (pv 2) pa_nil)) pa_nil)))))), ?_⟩
    have lz : 100000 < sizeLine := by rw [sizeLine_eq]; decide
    have lS : S.length ≤ s.P.length := nodup_le ndS sub
    -- found
    refine ⟨_, rfl, seq_walk hv hq fs fun J xs G w1 hG hxs hlen D hD => ?_⟩
    rw [hlen, List.length_map] at w1
    refine dc_st w1 fs (fun i acc F' H' => acc.map (·.1) = (S.take i).map Sum.inl) (fun _ _ _ _ _ h _ _ => h) (fun i acc F' H' _ gr _ => hG H' (sees_gr gr))
      rfl (by omega) (fun i acc x' F' H' H'' hi hl gr fD hDc pv y => ?_) hD fun acc F1 H1 g1 fD hDc pv => ?_
    · obtain ⟨rfl, hxi⟩ := y
      obtain ⟨d, h1, h2⟩ := hxs.get hxi
      rw [List.getElem?_map] at h1
      obtain ⟨b, hb, rfl⟩ := Option.map_eq_some_iff.mp h1
      rw [dp_int] at h2
      subst h2
      refine ⟨F', Gr.refl gr.fh, turnD1 rfl fun Yes h => ⟨_, rfl, h (Sum.inl b) _ _ _ (Gr.refl gr.fh) ?_⟩⟩
      have tk : S.take (i + 1) = S.take i ++ [b] := by rw [List.take_add_one, hb]; rfl
      rw [tk]
      refine kv_put pv fun hb' => ?_
      have z := ndS.sublist (List.take_sublist (i + 1) S)
      rw [tk] at z
      exact (List.nodup_append.mp z).2.2 b hb' b (by simp) rfl
    rw [List.take_length] at pv
    -- line
    refine ⟨_, rfl, list_dp (hv.ex g1.ff) hq g1.fh fun Ln ys F2 H2 g2 nL fL1 hL2 hys => ?_⟩
    rw [dps_int] at hys
    subst hys
    have gT := g1.trans g2
    have nL0 : H Ln = none := g1.dm _ nL
    have hD2 := g2.at hDc
    have fD2 := g2.none' fD (by rw [hDc]; exact fun z => nomatch z)
    have hDL : D ≠ Ln := ne_of_none hDc nL
    have e2 : Ex F0 F2 := gT.ff
    clear g1 g2 w1 hG hDc fD nL
    refine ⟨_, _, rfl, ?_⟩
    refine ⟨fun m σ' H' => ∃ (o4 o5 : Option V) (F' : Hp) (ks ln : List Int), σ' = [some (.ref x), some v, some (.ref D), some (.ref Ln), o4, o5] ∧ Gr [D, Ln] F2 H2 F' H' ∧ F' D = none ∧ F' Ln = none ∧ CInv (trip wd.m s.A) s.P S D Ln ks ln H' ∧
        (∀ p ∈ ks, p ∉ ln → ∀ q, (p, ("" : Str), q) ∈ trip wd.m s.A → q ∈ ks) ∧ m = 2 * (s.P.length - ks.length) + ln.length ∧ m ≤ 200,
      ⟨_, none, none, F2, S, S, rfl, Gr.refl gT.fh, fD2, fL1, ⟨⟨acc, hD2, pv⟩, hL2, ndS, fun z hz => ⟨sub z hz, .base hz⟩, fun z hz => hz, fun z hz => hz⟩, fun p hp hn => absurd hp hn, rfl, by omega⟩, ?_⟩
    rintro m σ' H' ⟨o4, o5, F', ks, ln, rfl, g, fD', fL', ci, cl, em, m2⟩
    refine ⟨_, rfl, _, .inl ⟨_, .inl (.inl ci.hl), rfl⟩, ?_⟩
    by_cases hln : ln = []
    · -- all is found
      subst hln
      refine iteNo (by simp) ?_
      obtain ⟨kvs, hkv, hke⟩ := ci.hd
      have gg := gT.trans g (fun b hb => .inr (by
        rcases List.mem_cons.mp hb with rfl | hb
        · exact hD
        · rw [List.mem_singleton.mp hb]; exact nL0))
      have lks : ks.length ≤ s.P.length := nodup_le ci.nd fun z hz => (ci.kp z hz).1
      refine ⟨_, rfl, D, kvs, ks, rfl, .inl hkv, hke, by omega, fun ys p pm pw hp => ?_⟩
      refine .mk ⟨p, _, rfl, .inl ⟨.inl (.inl upd_same), fun t ht => ?_⟩⟩
      have gE := (gg.newM (o := .lst (ys.map V.int)) hp).new (o := .tup (ys.map V.int)) ht
      refine q (.ref t) ys _ _ gE (.tup (.inl (.inl upd_same)) (dps_int.mpr rfl)) ?_ fun k => ?_
      · have nd := pm.nodup_iff.mpr ci.nd
        exact (pw.and nd).imp fun {a b} h => by have := h.1; have := h.2; omega
      · rw [pm.mem_iff]
        refine ⟨fun h => (ci.kp k h).2, fun h => ?_⟩
        induction h with
        | base h => exact ci.sk _ h
        | step h e ih => exact cl _ ih (by simp) _ e
    · refine iteYes (by cases ln with | nil => exact absurd rfl hln | cons a b => rfl) ?_
      obtain ⟨ln', p0, rfl⟩ : ∃ ln' p0, ln = ln' ++ [p0] := ⟨ln.dropLast, ln.getLast hln, (List.dropLast_concat_getLast hln).symm⟩
      refine ⟨_, fun σ' H' h => h, ?_⟩
      have p0k : p0 ∈ ks := ci.lk p0 (by simp)
      obtain ⟨v', l, v1, v2, v3⟩ := un p0 (ci.kp p0 p0k).1
      have g' := g.mut (o := .lst (ln'.map V.int)) fL' (.inl (by simp))
      have el : ((ln' ++ [p0]).map V.int).dropLast = ln'.map V.int := by rw [List.map_append]; simp
      refine ⟨_, rfl, x, CH, dx, _, _, rfl, sees_i g.fh (g.ff _ _ (e2 _ _ hx)), TH.cl, TH.nU, rfl, _, rfl, .inl ⟨rfl, _, .inl (.inl ci.hl)⟩, Ln, _, .int p0, rfl, rfl, ci.hl, by simp, ?_⟩
      rw [el]
      refine ⟨U, v', rfl, .inl ⟨kU, Sum.inl p0, sees_d g'.fh (g.ff _ _ (e2 _ _ hU)), rfl, v1.symm⟩, ?_⟩
      have ci' : CInv (trip wd.m s.A) s.P S D Ln ks ln' (upd H' Ln (.lst (ln'.map V.int))) := by
        obtain ⟨kvs, hkv, hke⟩ := ci.hd
        exact ⟨⟨kvs, by rw [upd_ne hDL]; exact hkv, hke⟩, upd_same, ci.nd, ci.kp, ci.sk, fun z hz => ci.lk z (by simp [hz])⟩
      generalize upd H' Ln (.lst (ln'.map V.int)) = Hs at g' ci' ⊢
      refine seq_walk ((v2.ex e2).ex g.ff) (.inr rfl) g'.fh fun J us G w2 hG hus hlen2 => ?_
      rw [hlen2, List.length_map] at w2
      refine for_it w2 (fun j σ'' H'' => ∃ (o4 o5 : Option V) (F'' : Hp) (ks2 ln2 : List Int), σ'' = [some (.ref x), some v, some (.ref D), some (.ref Ln), o4, o5] ∧ Gr [D, Ln] F' Hs F'' H'' ∧ F'' D = none ∧ F'' Ln = none ∧ CInv (trip wd.m s.A) s.P S D Ln ks2 ln2 H'' ∧ p0 ∈ ks2 ∧
          (∀ p ∈ ks2, p ∉ ln2 → p ≠ p0 → ∀ q, (p, ("" : Str), q) ∈ trip wd.m s.A → q ∈ ks2) ∧ (∀ q ∈ l.take j, q ∈ ks2) ∧ 2 * (s.P.length - ks2.length) + ln2.length + 1 ≤ m)
        ⟨o4, o5, F', ks, ln', rfl, Gr.refl g'.fh, fD', fL', ci', p0k, fun p hp hn h0 => cl p hp (by simp [hn, h0]), by simp, by rw [em]; simp; omega⟩ (fun j σ'' H'' _ ⟨_, _, F'', _, _, _, g2, _⟩ => hG H'' (fun a o e => g2.fh a o (g2.ff a o e))) ?_ ?_
      · rintro j y σ'' H2' H3 hj ⟨o4, o5, F'', ks2, ln2, rfl, g2, fD'', fL'', c2, pk2, cl2, tk2, m3⟩ ⟨rfl, hyj⟩
        obtain ⟨d', q1, q2⟩ := hus.get hyj
        rw [List.getElem?_map] at q1
        obtain ⟨b, hb, rfl⟩ := Option.map_eq_some_iff.mp q1
        rw [dp_int] at q2
        subst q2
        have tk : l.take (j + 1) = l.take j ++ [b] := by rw [List.take_add_one, hb]; rfl
        have bR : (p0, ("" : Str), b) ∈ trip wd.m s.A := (v3 b).mp (List.mem_of_getElem? hb)
        obtain ⟨kvs, hkv, hke⟩ := c2.hd
        have lks : ks2.length ≤ s.P.length := nodup_le c2.nd fun z hz => (c2.kp z hz).1
        refine ⟨_, rfl, _, rfl, D, _, rfl, DGet.k (k := Sum.inl b) hkv, _, rfl, ?_⟩
        by_cases hbk : b ∈ ks2
        · refine iteNo (by rw [kv_some hke hbk]; decide) ⟨_, _, F'', ks2, ln2, rfl, g2, fD'', fL'', c2, pk2, cl2, fun q hq => ?_, m3⟩
          rw [tk, List.mem_append, List.mem_singleton] at hq
          rcases hq with hq | rfl
          · exact tk2 q hq
          · exact hbk
        · refine iteYes (by rw [kv_none hke hbk]; rfl) ?_
          refine ⟨_, rfl, _, rfl, D, _, rfl, DPut.k (k := Sum.inl b) hkv (by have := kv_len hke; omega), ?_⟩
          have hL3 : upd H3 D (.dK (putK kvs (Sum.inl b) (.bl true))) Ln = some (.lst (ln2.map V.int)) := by rw [upd_ne (Ne.symm hDL)]; exact c2.hl
          refine ⟨_, rfl, .inl ⟨rfl, _, .inl (.inl hL3)⟩, _, rfl, Ln, _, _, rfl, rfl, hL3, by rw [List.length_map]; omega, ?_⟩
          have g3 := (g2.mut (o := .dK (putK kvs (Sum.inl b) (.bl true))) fD'' (.inl (by simp))).mut (o := .lst (ln2.map V.int ++ [.int b])) fL'' (.inl (by simp))
          have lb : ks2.length + 1 ≤ s.P.length := by
            have z := nodup_le (l := ks2 ++ [b]) (m := s.P) (List.nodup_append.mpr ⟨c2.nd, by simp, fun a ha c hc e => hbk (by rw [← List.mem_singleton.mp hc, ← e]; exact ha)⟩) fun z hz => by
              rw [List.mem_append, List.mem_singleton] at hz
              rcases hz with hz | rfl
              · exact (c2.kp z hz).1
              · exact oks.to bR
            simpa using z
          refine ⟨_, _, F'', ks2 ++ [b], ln2 ++ [b], rfl, g3, fD'', fL'', ⟨⟨_, by rw [upd_ne hDL]; exact upd_same, kv_put hke hbk⟩, by rw [List.map_append]; exact upd_same, List.nodup_append.mpr ⟨c2.nd, by simp, fun a ha c hc e => hbk (by rw [← List.mem_singleton.mp hc, ← e]; exact ha)⟩, fun z hz => ?_, fun z hz => by simp [c2.sk z hz], fun z hz => ?_⟩, by simp [pk2], fun p hp hn h0 q' hq' => ?_, fun q' hq' => ?_, by simp; omega⟩
          · rw [List.mem_append, List.mem_singleton] at hz
            rcases hz with hz | rfl
            · exact c2.kp z hz
            · exact ⟨oks.to bR, .step (c2.kp p0 pk2).2 bR⟩
          · rw [List.mem_append, List.mem_singleton] at hz ⊢
            exact hz.imp (c2.lk z) id
          · rw [List.mem_append, List.mem_singleton, not_or] at hn
            rw [List.mem_append, List.mem_singleton] at hp
            rw [List.mem_append]
            exact .inl (cl2 p (hp.resolve_right hn.2) hn.1 h0 q' hq')
          · rw [tk, List.mem_append, List.mem_singleton] at hq'
            rw [List.mem_append, List.mem_singleton]
            exact hq'.imp (tk2 q') id
      · rintro σ'' H3 ⟨o4, o5, F'', ks2, ln2, rfl, g2, fD'', fL'', c2, pk2, cl2, tk2, m3⟩
        rw [List.take_length] at tk2
        refine ⟨_, ?_, o4, o5, F'', ks2, ln2, rfl, g'.trans g2 (fun b hb => .inl hb), fD'', fL'', c2, fun p hp hn q' hq' => ?_, rfl, by omega⟩
        · omega
        · by_cases e : p = p0
          · subst e
            exact tk2 q' ((v3 q').mpr hq')
          · exact cl2 p hp hn e q' hq'
theorem ok_begun {f CH CS CW : Addr} {fd : FuncData} (F : Fun K "begun" "Hearing.begun" s_Hearing_begun f fd) (TH : HeC K CH) (TS : SpC K CS) (Me_closed : Met P w K mg base CH "closed" 1 ["self", "places"] (spClosed K CH CS CW)) : FnOk P w K mg base CX0 2 f fd ["self"] (spBegun K CH CS CW) := by
  refine F.ok sc_Hearing_begun (fun vs H Q E h => ?_) (fun cdv A outer s H vs Q E hr h => ?_)
  · obtain ⟨F0, x, s, wd, rfl, _⟩ := h
    rfl
  · obtain ⟨F0, x, s, wd, rfl, fs, he, ndS, zP, q⟩ := h
    obtain ⟨dx, sx, wx, U, L, kU, kL, hx, ⟨⟨ds, va, vs, vp, vz, vd, hsx, hA, hS, _⟩, oks⟩, hwa, hU, hL, un, _⟩ := he.un
    refine ⟨_, (pss_one (ps_ret (pe_me Me_closed (hr.mono (by decide)) (pv 0) (pa_cons (zfld K (zfld K (pv 0))) pa_nil)))), ?_⟩
    refine ⟨_, rfl, x, dx, _, rfl, sees_i fs hx, rfl, ?_⟩
    refine ⟨_, rfl, x, CH, dx, _, _, rfl, sees_i fs hx, TH.cl, TH.nS, rfl, sx, CS, ds, _, _, rfl, sees_i fs hsx, TS.cl, TS.nS, rfl, ?_⟩
    exact ⟨F0, x, _, _, s.S, s, wd, rfl, fs, he, hS, .inr rfl, fun z hz => (oks.pl z).mpr (.inl hz), ndS, zP, q⟩
theorem ok_behind {f CH CS CW : Addr} {fd : FuncData} (F : Fun K "behind" "Hearing.behind" s_Hearing_behind f fd) (T : Txt mg) (TH : HeC K CH) (Me_closed : Met P w K mg base CH "closed" 1 ["self", "places"] (spClosed K CH CS CW)) : FnOk P w K mg base CX0 2 f fd ["self", "places", "mark"] (spBehind K CH CS CW) := by
  refine F.ok sc_Hearing_behind (fun vs H Q E h => ?_) (fun cdv A outer s H vs Q E hr h => ?_)
  · obtain ⟨F0, x, v, d, S, k, s, wd, rfl, _⟩ := h
    rfl
  · obtain ⟨F0, x, v, d, S, k, s, wd, rfl, fs, he, hv, hq, hk, zP, q⟩ := h
    obtain ⟨dx, sx, wx, U, L, kU, kL, hx, hsp, hwa, hU, hL, _, led⟩ := he.un
    obtain ⟨a, kD, vL, haD, cD⟩ := led k hk
    have oks := hsp.ok
    have hu := hu_of hr
    refine ⟨_, (pss_cons (zs (i := 3) sc_Hearing_behind.nd (pe_dget2 hu (zfld K (pv 0)) (pv 2) pe_dnewK (m2_of rfl)))
      (pss_cons (ps_setDc2 (i := 4) (own := [("place", 5), ("later", 6)]) (vs1 := [6]) rfl sc_Hearing_behind.nd rfl rfl (sw_trueD rfl rfl rfl (by decide +kernel)) (zseq K (pv 1)) (blkOk_by (N := sc_Hearing_behindN) (sc := defScope s_Hearing_behind) (by decide +kernel)) (by decide) ⟨(fun _ _ _ _ _ => (zg (i := 5) sc_Hearing_behind.nd)), (fun _ _ _ _ _ => pts_nil), (fun _ _ _ _ _ => (zseq K (pe_dget2 hu (pv 3) (pv 5) (pe_tup pa_nil) (m2_of rfl)))), (fun _ _ _ _ _ => (zg (i := 6) sc_Hearing_behind.nd)), (fun _ _ _ _ _ => pts_nil), (fun _ _ _ _ _ => (pv 6)), (fun _ _ _ _ _ => pe_bl)⟩)
      (pss_one (ps_ret (pe_me Me_closed (hr.mono (by decide)) (pv 0) (pa_cons (pe_callB (call_sortedDI rfl) (by rfl) T.sorted bt_sorted (pa_cons (pv 4) pa_nil)) pa_nil)))))), ?_⟩
    have lz : 100000 < sizeLine := by rw [sizeLine_eq]; decide
    refine ⟨_, rfl, x, CH, dx, _, _, rfl, sees_i fs hx, TH.cl, TH.nL, rfl, L, rfl, .inl ⟨kL, sees_d fs hL⟩, _, rfl, fun p0 hp0 => ?_⟩
    have g1 := (Gr.refl (B := []) fs).newM (o := .dK []) hp0
    refine ⟨_, .inl ⟨kL, Sum.inr k, sees_d g1.fh hL, rfl, rfl⟩, ?_⟩
    rw [vL]
    generalize upd H p0 (.dK []) = H1 at g1 ⊢
    refine ⟨_, rfl, seq_walk hv hq g1.fh fun J xs G w1 hG hxs hlen D hD => ?_⟩
    rw [hlen, List.length_map] at w1
    refine loop_it w1 (fun i H' => ∃ (F' : Hp) (kvs : List (Key × V)) (l : List Int), Gr [] F0 H1 F' H' ∧ F' D = none ∧ H' D = some (.dK kvs) ∧ kvs.map (·.1) = l.map Sum.inl ∧ l.Nodup ∧ ∀ z, z ∈ l ↔ ∃ p ∈ S.take i, (p, k, z) ∈ trip wd.m s.A)
      ⟨F0, [], [], (Gr.refl g1.fh).newM hD, g1.fh.dm hD, upd_same, rfl, List.nodup_nil, by simp⟩ (fun i H' _ ⟨F', _, _, g, _⟩ => hG H' (fun a o e => g.fh a o (g.ff a o e))) (fun i x' H' H'' hi ⟨F', kvs, l, g, fD, hDc, ke, nd, mem⟩ y => ?_) fun H' ⟨F', kvs, l, g, fD, hDc, ke, nd, mem⟩ => ?_
    · obtain ⟨rfl, hxi⟩ := y
      obtain ⟨d', q1, q2⟩ := hxs.get hxi
      rw [List.getElem?_map] at q1
      obtain ⟨p, hb, rfl⟩ := Option.map_eq_some_iff.mp q1
      rw [dp_int] at q2
      subst q2
      refine ⟨rfl, yesI ?_⟩
      obtain ⟨lp, y1, y4⟩ := cD p
      have aF : F' a = some (.dK kD) := g.ff _ _ haD
      have tk : S.take (i + 1) = S.take i ++ [p] := by rw [List.take_add_one, hb]; rfl
      refine ⟨_, rfl, a, rfl, .inl ⟨kD, sees_d g.fh aF⟩, _, rfl, Nat.zero_le _, fun t0 ht0 => ⟨_, .inl ⟨kD, Sum.inl p, sees_d (g.new ht0).fh ((Ex.new (g.fh.dm ht0)) _ _ aF), rfl, rfl⟩, ?_⟩⟩
      have ga := g.new (o := .tup []) ht0
      have e0 := Ex.new (o := HO.tup []) (g.fh.dm ht0)
      have hDa : upd H'' t0 (.tup []) D = some (.dK kvs) := by rw [upd_ne (ne_of_none hDc ht0)]; exact hDc
      have fDa : upd F' t0 (.tup []) D = none := by rw [upd_ne (ne_of_none hDc ht0)]; exact fD
      have ho : Dp K (upd F' t0 (.tup [])) ((valV kD (Sum.inl p)).getD (.ref t0)) (.tuple (lp.map .int)) := by
        rcases y1 with ⟨y1, rfl⟩ | ⟨v, y1, y2⟩
        · rw [y1]
          exact .tup (.inl (.inl upd_same)) .nil
        · rw [y1]
          exact y2.ex (g.ff.trans e0)
      generalize (valV kD (Sum.inl p)).getD (.ref t0) = vo at ho ⊢
      generalize upd H'' t0 (.tup []) = Hs at ga hDa ⊢
      generalize upd F' t0 (.tup []) = Fs at ga fDa ho
      refine seq_walk ho (.inr rfl) ga.fh fun J2 ys G2 w2 hG2 hys hlen2 => ?_
      rw [hlen2, List.length_map] at w2
      refine loop_it w2 (fun j H2 => ∃ (F2 : Hp) (kvs2 : List (Key × V)) (l2 : List Int), Gr [D] Fs Hs F2 H2 ∧ F2 D = none ∧ H2 D = some (.dK kvs2) ∧ kvs2.map (·.1) = l2.map Sum.inl ∧ l2.Nodup ∧ ∀ z, z ∈ l2 ↔ (∃ p ∈ S.take i, (p, k, z) ∈ trip wd.m s.A) ∨ z ∈ lp.take j)
        ⟨Fs, kvs, l, Gr.refl ga.fh, fDa, hDa, ke, nd, fun z => by rw [mem z]; simp⟩ (fun j H2 _ ⟨F2, _, _, g2, _⟩ => hG2 H2 (fun a o e => g2.fh a o (g2.ff a o e))) (fun j x' H2 H3 hj ⟨F2, kvs2, l2, g2, fD2, hD2, ke2, nd2, mem2⟩ y => ?_) fun H2 ⟨F2, kvs2, l2, g2, fD2, hD2, ke2, nd2, mem2⟩ => ?_
      · obtain ⟨rfl, hyi⟩ := y
        obtain ⟨d', q1, q2⟩ := hys.get hyi
        rw [List.getElem?_map] at q1
        obtain ⟨b, hbj, rfl⟩ := Option.map_eq_some_iff.mp q1
        rw [dp_int] at q2
        subst q2
        have tj : lp.take (j + 1) = lp.take j ++ [b] := by rw [List.take_add_one, hbj]; rfl
        have ll : l2.length ≤ s.P.length := nodup_le nd2 fun z hz => by
          rcases (mem2 z).mp hz with ⟨p', _, h⟩ | h
          · exact oks.to h
          · exact oks.to ((y4 z).mp (List.mem_of_mem_take h))
        have kl := kv_len ke2
        refine ⟨rfl, yesI ⟨_, rfl, kvs2, Sum.inl b, rfl, hD2, by omega, ?_⟩⟩
        have gm := g2.mut (o := .dK (putK kvs2 (Sum.inl b) (.bl true))) fD2 (.inl (by simp))
        by_cases hbl : b ∈ l2
        · refine ⟨F2, _, l2, gm, fD2, upd_same, kv_old ke2 hbl, nd2, fun z => ?_⟩
          rw [mem2 z, tj, List.mem_append, List.mem_singleton]
          constructor
          · exact fun h => h.imp id .inl
          · rintro (h | h | rfl)
            · exact .inl h
            · exact .inr h
            · exact (mem2 z).mp hbl
        · refine ⟨F2, _, l2 ++ [b], gm, fD2, upd_same, kv_put ke2 hbl, List.nodup_append.mpr ⟨nd2, by simp, fun a ha c hc e => hbl (by rw [← List.mem_singleton.mp hc, ← e]; exact ha)⟩, fun z => ?_⟩
          rw [List.mem_append, List.mem_singleton, mem2 z, tj, List.mem_append, List.mem_singleton, or_assoc]
      · refine ⟨F2, kvs2, l2, ga.trans g2 (fun b hb => .inr (by rw [List.mem_singleton.mp hb]; exact hD)), fD2, hD2, ke2, nd2, fun z => ?_⟩
        rw [mem2 z, List.take_length, tk]
        simp [or_and_right, exists_or, y4 z]
    · rw [List.take_length] at mem
      have gT := g1.trans g
      have ll : l.length ≤ s.P.length := nodup_le nd fun z hz => by
        obtain ⟨p', _, h⟩ := (mem z).mp hz
        exact oks.to h
      refine ⟨_, rfl, x, dx, _, rfl, sees_i g.fh (g.ff _ _ hx), rfl, ?_⟩
      refine ⟨_, rfl, D, kvs, l, rfl, .inl hDc, ke, by omega, fun ys p pm pw hp => ?_⟩
      have gE := gT.new (o := .lst (ys.map V.int)) hp
      refine ⟨_, x, _, .list (ys.map .int), ys, s, wd, rfl, gE.fh, he.ex' gE.ff, .lst (.inl (.inl upd_same)) (dps_int.mpr rfl), .inl rfl, fun z hz => ?_, pm.nodup_iff.mpr nd, zP, fun r ns F2 H2 g2 hd pw2 mem2 => q r ns ys F2 H2 (gE.trans g2) hd pw2 (fun z => by rw [pm.mem_iff, mem z]) mem2⟩
      obtain ⟨p', _, h⟩ := (mem z).mp (pm.mem_iff.mp hz)
      exact oks.to h
end
end TW
set_option Elab.async false
set_option linter.all false
set_option maxRecDepth 100000
set_option maxHeartbeats 4000000
/-! enumerate(v), v a list or a tuple -/
namespace TW
open PySem PySem.Spec PyProof.Rows L2 RZ StX
open Evl (Ex)
theorem meets_enum1 {v : Value} {o : Obj} {H : Heap → Prop} (B : Begins v o H) :
    Meets (Builtin.«enumerate.__new__» ⟨[.type "enumerate", v], []⟩) (fun _ R s => H s.heap ∧
      R (.ok (.ret (.ref (s.heap.push o).objs.size))) { s with heap := (s.heap.push o).push { cls := .type "enumerate", data := .fields #[.none, .bool false, .ref s.heap.objs.size, rawInt 0, .none, .none] } }) :=
  .of_wp fun prog w A R s h => by
    obtain ⟨hp, g, d, tk, os⟩ := s; obtain ⟨h1, h⟩ := h
    have hsub := sub_enumerate
    have q1 : ∀ {A' : Around} {E : Value → Shared → Prop} {Q : Value → Shared → Prop}, Q (.ref hp.objs.size) ⟨hp.push o, g, d, tk, os⟩ → wpAny (model prog w) A' (pyIter v) Q E ⟨hp, g, d, tk, os⟩ :=
      fun q => B.iter prog w _ _ ⟨hp, g, d, tk, os⟩ _ h1 q
    wp_walk using q1
    refine wpAny_stack_any fun st => wpAny_pure ?_
    split
    · rename_i c _ _ _ _ _
      cases (c == Value.type "enumerate")
      · wp_walk using q1
        exact ⟨_, rfl, h⟩
      · wp_walk using q1
        exact ⟨_, rfl, h⟩
    · wp_walk using q1
      exact ⟨_, rfl, h⟩
section
variable {prog : Program} {w : World} {A : Around} {E : Value → Shared → Prop} {s : Shared}
theorem call_enum1 {v : Value} {o : Obj} {H : Heap → Prop} {Q : Value → Shared → Prop} (B : Begins v o H) (h1 : H s.heap)
    (h : ∀ h', IsEnum h' (s.heap.objs.size + 1) s.heap.objs.size 0 .none → h'.get? s.heap.objs.size = some o → h'.objs.size = s.heap.objs.size + 2 →
      (∀ b o, s.heap.get? b = some o → h'.get? b = some o) → Q (.ref (s.heap.objs.size + 1)) { s with heap := h' }) :
    wpAny (model prog w) A (call (.type "enumerate") [v]) Q E s := by
  refine callType_new F.called_enumerate (by decide) (F.typeCall_enumerate_1 _) (F.newCall_enumerate_1 _) (fun obj => F.args_object_init_2 obj _) F.entry_enumerate_new
    (meets_enum1 B) ⟨h1, ?_⟩
  have hz : (s.heap.push o).objs.size = s.heap.objs.size + 1 := Heap.size_push ..
  show _ ∧ _
  rw [hz]
  have he : IsEnum ((s.heap.push o).push { cls := .type "enumerate", data := .fields #[.none, .bool false, .ref s.heap.objs.size, rawInt 0, .none, .none] }) (s.heap.objs.size + 1) s.heap.objs.size 0 .none := by
    have := Heap.get?_push_size (s.heap.push o) (o := { cls := .type "enumerate", data := .fields #[.none, .bool false, .ref s.heap.objs.size, rawInt 0, .none, .none] }) rfl
    rw [hz] at this; exact this
  refine ⟨⟨_, he, rfl⟩, h _ he (Heap.get?_push_of_some _ (Heap.get?_push_size _ B.free)) (by rw [Heap.size_push, hz]) fun b o x => Heap.get?_push_of_some _ (Heap.get?_push_of_some _ x)⟩
end
/-- the tuple at a, each item in a new pair -/
def IteT (K : PySem.W.Frag) (a : Addr) : It :=
  ⟨fun i H => ∃ (xs : List V) (x : V), SqT K H a xs ∧ xs[i]? = some x, fun i H v H' => ∃ T x, v = .ref T ∧ H T = none ∧ H' = upd H T (.tup [.int (i : Nat), x]) ∧ ∀ xs, SqT K H a xs → xs[i]? = some x, fun i H => ∃ xs : List V, SqT K H a xs ∧ xs.length ≤ i⟩
theorem turn_enumT {P : Program} {w : World} {K : PySem.W.Frag} {elts : List Expr} {kk : Nat} {tpos : Pos} (a e it : Addr) :
    Turn P w K (.Tuple elts kk tpos) (IteT K a) [e, it] e (fun i h => (∃ old, IsEnum h e it ((i : Nat) : Int) old) ∧ h.IsTupleIter it a i ∧ e ≠ it) where
  mem := by simp
  obj := fun i h st b hb => by
    obtain ⟨⟨old, he⟩, ⟨o, ho, hc, hd⟩, _⟩ := st
    have e' : b = e ∨ b = it := by simpa using hb
    rcases e' with z | z
    · rw [z]; exact ⟨_, he, fun v q => nomatch q⟩
    · rw [z]; exact ⟨o, ho, fun v q => by rw [hd] at q; cases q⟩
  keep := fun i h h' st k => let ⟨⟨old, he⟩, hi, hne⟩ := st; ⟨⟨old, k e (by simp) _ he⟩, hi.at fun o q => k it (by simp) o q, hne⟩
  item := by
    intro X hP hw hK hc i pins s σ H E I hf st hg
    subst hP hw hK
    obtain ⟨⟨old, he⟩, hit, hne⟩ := st
    obtain ⟨xs, x, hq, hx⟩ := hg
    obtain ⟨its, rv, p, hz⟩ := I.tuple hq
    obtain ⟨u, hu, ru⟩ := rv.get hx
    have p' : s.heap.IsTuple a its.toArray := p
    have hel : e < s.heap.objs.size := Heap.lt_size he
    have hil : it < s.heap.objs.size := by obtain ⟨_, q, _⟩ := hit; exact Heap.lt_size q
    have ea : e ≠ a := fun z => by
      obtain ⟨o, ho, hc', _⟩ := p'
      rw [← z, he] at ho
      cases ho
      exact absurd hc' (by simp)
    have ai : a ≠ it := fun z => by
      obtain ⟨o, ho, hc', _⟩ := p'
      obtain ⟨o2, ho2, hc2, _⟩ := hit
      rw [← z, ho] at ho2
      cases ho2
      rw [hc'] at hc2
      exact absurd hc2 (by simp)
    refine wpAny_pyNext_enum_itemC (Draws.tuple (show X.A.in1.handled = none from I.ok.hd hc) it a ai its.toArray) he ⟨hit, p'⟩ (by have := (List.getElem?_eq_some_iff.mp hu).1; simpa using this) hne (by simp [hne, ea]) fun x' h' tk hx' ho hst' hT hsz hk => ?_
    have hit' := hst'.1
    have : x' = u := by
      have z : its[i]? = some x' := by simpa using hx'
      rw [hu] at z
      exact (Option.some.inj z).symm
    subst this
    refine ⟨_, rfl, wpAny_letOwnedTupleGo_enum (s := { s with heap := h', toks := tk + 1 }) ho fun h'' he' sb => ?_⟩
    have hT2 : h''.get? s.heap.objs.size = some { cls := .type "tuple", data := .seq #[.int i tk, x'] } := (sb.2 _ (Nat.ne_of_gt hel)).trans hT
    have new : ObjOk X.prog X.w (upd H s.heap.objs.size (.tup [.int (i : Nat), x])) h'' s.heap.objs.size (.tup [.int (i : Nat), x]) :=
      ⟨by show 2 ≤ sizeLine; decide, [.int i tk, x'], .cons ⟨_, rfl⟩ (.cons ru .nil), ⟨_, hT2, rfl, _, rfl⟩⟩
    have I1 : Inv X pins σ (upd H s.heap.objs.size (.tup [.int (i : Nat), x])) { s with heap := h'', toks := tk + 1 } :=
      I.turnedNew (ch := [e, it]) (fun b ob hb q => (sb.2 b (fun z => hb (by simp [z]))).trans (hk b ob (fun z => hb (by simp [z])) (fun z => hb (by simp [z])) q)) hf (Nat.le_refl _) new
    refine ⟨.ref s.heap.objs.size, _, I1, rfl, ⟨_, x, rfl, I.hok.fresh (Nat.le_refl _), rfl, fun ys hy => by rw [I.tuple_inj hy hq]; exact hx⟩, ⟨⟨x', ?_⟩, hit'.at fun o q => (sb.2 it (Ne.symm hne)).trans q, hne⟩, fun b hb => ?_⟩
    · have e1 : ((i + 1 : Nat) : Int) = (i : Int) + 1 := by omega
      rw [e1]; exact he'
    · have hb' : b < s.heap.objs.size := by
        have e' : b = e ∨ b = it := by simpa using hb
        rcases e' with z | z
        · rw [z]; exact hel
        · rw [z]; exact hil
      rw [upd_ne (Nat.ne_of_lt hb')]
      exact (hf b hb).1
  done := by
    intro X hP hw hK hc i pins s σ H E I hf st hg
    subst hP hw hK
    obtain ⟨⟨old, he⟩, hit, hne⟩ := st
    obtain ⟨xs, hq, hx⟩ := hg
    obtain ⟨its, rv, p, hz⟩ := I.tuple hq
    have p' : s.heap.IsTuple a its.toArray := p
    obtain ⟨f0, f1, f2, f3, f4, f5⟩ := hf it (by simp)
    have hl := rv.length
    have ai : a ≠ it := fun z => by
      obtain ⟨o, ho, hc', _⟩ := p'
      obtain ⟨o2, ho2, hc2, _⟩ := hit
      rw [← z, ho] at ho2
      cases ho2
      rw [hc'] at hc2
      exact absurd hc2 (by simp)
    unfold pyNext
    refine wpAny_bind (wpAny_attempt (wpAny_callSpecial?_slot (name := Str.ofString "__next__") (show s.TypeIs (.ref e) "enumerate" from ⟨_, he, rfl⟩) F.slot_enumerate_next
      (wpAny_call_entry F.slot_enumerate_next (show s.TypeIs (.ref e) "enumerate" from ⟨_, he, rfl⟩) F.entry_enumerate_next ?_ (F.args_enumerate_next_1 _))))
    show wpAny _ _ (field (.ref e) 2 >>= _) _ _ _
    refine wpAny_bind (wpAny_field he rfl (x := .ref it) rfl ?_)
    refine wpAny_bind (wpAny_nextOf_tuple_end (show X.A.in1.handled = none from I.ok.hd hc) hit p' (by simp; omega) fun h' x he' hx' => ?_)
    obtain ⟨o, ho, hc'⟩ := hx'
    refine wpAny_bind (wpAny_isInstance (T := "StopIteration") (b := true) ⟨o, ho, hc'⟩ isSubtype_stop ?_)
    exact wpAny_pure ⟨rfl, I.turned (t' := s.toks) (fun b o hb q => he' b o hb q) f0 f1 f3 f4 f5⟩
  self := fun A i s Q E st h => let ⟨⟨_, he⟩, _⟩ := st; wpAny_pyIter_enum he h
structure rEnD (K : PySem.W.Frag) (vs : List V) (H : Hp) (R : It → Hp → Prop) : Prop where
  r : ∃ a xs, vs = [.ref a] ∧ ((SqL K H a xs ∧ R (Ite K a) H) ∨ (SqT K H a xs ∧ R (IteT K a) H))
def iEnumD (K : PySem.W.Frag) (ta : TA) : TI := fun σ H R => ta σ H fun vs H1 => rEnD K vs H1 R
theorem pi_enumD {X : Cx} {e : Expr} {ta : TA} {p pos tpos : Pos} {elts : List Expr} {kk : Nat} (K : PySem.W.Frag) (hm : X.mg "enumerate" = none) (ha : PA X [e] ta) (hK : X.K = K := by rfl) (hg : Gl X "enumerate" := by rfl) (hs : starEach [e] X.env = [(false, eval e X.env)] := by rfl) :
    PI X (.Tuple elts kk tpos) (.Call (.Name "enumerate" p) [e] [] pos) (iEnumD K ta) := by
  subst hK
  refine ⟨fun pins s σ H R I h => ?_⟩
  refine Call_ (ld_blt I hg hm boot_enumerate (PyProof.Rows.callWith_type1 (thn (ha.run pos pins s σ H _ I h) fun us s1 ⟨vs, H1, I1, r1, q1⟩ => ?_) hs rfl))
  obtain ⟨a, xs, ex, hq⟩ := q1.r
  subst ex
  cases r1 with
  | cons r rr =>
    cases rr
    cases r
    have fpk : ∀ {h' : Heap} (I2 : Inv X pins σ H1 { s1 with heap := h' }), ∀ b ∈ ([s1.heap.objs.size + 1, s1.heap.objs.size] : List Addr), s1.heap.objs.size ≤ b := fun {h'} I2 b hb => by
      have e' : b = s1.heap.objs.size + 1 ∨ b = s1.heap.objs.size := by simpa using hb
      rcases e' with z | z
      · rw [z]; exact Nat.le_add_right _ _
      · rw [z]; exact Nat.le_refl _
    rcases hq with ⟨hq, q⟩ | ⟨hq, q⟩
    · obtain ⟨its, rv, p', hz⟩ := I1.list hq
      refine call_enumerate_list p'.isList fun h' he hit hsz hk => wpAny_pyIter_enum he ?_
      have I2 : Inv X pins σ H1 { s1 with heap := h' } := I1.kept (t' := s1.toks) hk
      exact ⟨s1.heap.objs.size + 1, [s1.heap.objs.size + 1, s1.heap.objs.size], _, _, H1, rfl, I2, turn_enum a (s1.heap.objs.size + 1) s1.heap.objs.size, ⟨⟨.none, he⟩, hit, Nat.succ_ne_self _⟩, fun b hb => I1.fpOk (fpk I2 b hb) (I1.hok.fresh (fpk I2 b hb)), q⟩
    · obtain ⟨its, rv, p', hz⟩ := I1.tuple hq
      refine call_enum1 (begins_tuple a its.toArray) (show s1.heap.IsTuple a its.toArray from p') fun h' he hit hsz hk => wpAny_pyIter_enum he ?_
      have I2 : Inv X pins σ H1 { s1 with heap := h' } := I1.kept (t' := s1.toks) hk
      exact ⟨s1.heap.objs.size + 1, [s1.heap.objs.size + 1, s1.heap.objs.size], _, _, H1, rfl, I2, turn_enumT a (s1.heap.objs.size + 1) s1.heap.objs.size, ⟨⟨.none, he⟩, ⟨_, hit, rfl, rfl⟩, Nat.succ_ne_self _⟩, fun b hb => I1.fpOk (fpk I2 b hb) (I1.hok.fresh (fpk I2 b hb)), q⟩
theorem walk_enumT {K : PySem.W.Frag} {a : Addr} {xs : List V} : Walk (IteT K a) xs.length (fun H => SqT K H a xs) (YPair (fun i => some (.int (i : Nat))) (fun i => xs[i]?)) := by
  refine ⟨fun i _ hi q => ⟨xs, xs[i], q, by simp [hi]⟩, fun _ q => ⟨xs, q, Nat.le_refl _⟩, fun i H v H' _ q y => ?_⟩
  obtain ⟨T, x, h1, h2, h3, h4⟩ := y
  exact ⟨T, .int (i : Nat), x, h1, h2, h3, rfl, h4 xs q⟩
theorem enum_walk {K : PySem.W.Frag} {F H : Hp} {v : V} {d : PyData} {ds : List PyData} {R : It → Hp → Prop} (hd : Dp K F v d) (hq : isSeq d ds) (s : Sees F H)
    (k : ∀ J (xs : List V) G, Walk J xs.length G (YPair (fun i => some (.int (i : Nat))) (fun i => xs[i]?)) → (∀ H', Sees F H' → G H') → DpAll K F xs ds → xs.length = ds.length → R J H) : rEnD K [v] H R := by
  obtain ⟨a, xs, rfl, h, q⟩ := dp_seq hd hq
  rcases h with h | h
  · exact .mk ⟨a, xs, rfl, .inl ⟨sees_l s h, k _ xs _ walk_enum (fun H' z => sees_l z h) q q.length⟩⟩
  · exact .mk ⟨a, xs, rfl, .inr ⟨sees_t s h, k _ xs _ walk_enumT (fun H' z => sees_t z h) q q.length⟩⟩
end TW
set_option Elab.async false
set_option linter.all false
set_option maxRecDepth 100000
set_option maxHeartbeats 8000000
/-! what is asked from outside -/
namespace TW
open PySem PySem.Spec PyProof.Rows L2 RZ StX
open Evl (Ex)
theorem inV_str {k : Str} {l : List Str} (h : k ∈ l) : inV (.str k) (l.map V.str) = true := List.any_eq_true.mpr ⟨.str k, List.mem_map.mpr ⟨k, h, rfl⟩, by simp [eqV]⟩
theorem flat_strs (l : List Str) : (l.map V.str).all flatV = true := by
  rw [List.all_map]
  exact List.all_eq_true.mpr fun _ _ => rfl
/-- as Reach, from a set -/
inductive ReachP (R : List (Int × Str × Int)) (S : Int → Prop) : Int → Prop
  | base {k : Int} (h : S k) : ReachP R S k
  | step {p q : Int} (h : ReachP R S p) (e : (p, ("" : Str), q) ∈ R) : ReachP R S q
theorem reachP {R : List (Int × Str × Int)} {T : List Int} {S : Int → Prop} (h : ∀ z, z ∈ T ↔ S z) (k : Int) : Reach R T k ↔ ReachP R S k :=
  ⟨fun r => by
    induction r with
    | base q => exact .base ((h _).mp q)
    | step _ e ih => exact .step ih e, fun r => by
    induction r with
    | base q => exact .base ((h _).mpr q)
    | step _ e ih => exact .step ih e⟩
theorem ReachP.congr {R : List (Int × Str × Int)} {S S' : Int → Prop} (h : ∀ z, S z ↔ S' z) (k : Int) : ReachP R S k ↔ ReachP R S' k :=
  ⟨fun r => by
    induction r with
    | base q => exact .base ((h _).mp q)
    | step _ e ih => exact .step ih e, fun r => by
    induction r with
    | base q => exact .base ((h _).mpr q)
    | step _ e ih => exact .step ih e⟩
/-- behind the mark k -/
def Beh (R : List (Int × Str × Int)) (k : Str) (S : Int → Prop) : Int → Prop := ReachP R fun z => ∃ p, S p ∧ (p, k, z) ∈ R
theorem Beh.congr {R : List (Int × Str × Int)} {k : Str} {S S' : Int → Prop} (h : ∀ z, S z ↔ S' z) (q : Int) : Beh R k S q ↔ Beh R k S' q :=
  ReachP.congr (fun z => exists_congr fun p => and_congr (h p) Iff.rfl) q
/-- behind a row -/
def Goes (R : List (Int × Str × Int)) (S : Int → Prop) (row : List Str) : Int → Prop := row.foldl (fun A k => Beh R k A) S
theorem Goes.snoc {R : List (Int × Str × Int)} {S : Int → Prop} {row : List Str} {k : Str} : Goes R S (row ++ [k]) = Beh R k (Goes R S row) := by
  unfold Goes
  rw [List.foldl_append]
  rfl
structure Bnd (s : SpD) (wd : WaD) : Prop where
  A : s.A.length ≤ 2000
  P : s.P.length < 64
  L : wd.all.length ≤ 4000
  m : ∀ k ∈ wd.ks, (wd.m k).length ≤ 6
  Z : ∀ z ∈ s.Z, z ∈ wd.ks
def spNeedHe (K : PySem.W.Frag) (CH CS CW : Addr) : Sp := fun vs H Q _ => ∃ (F : Hp) (sx wx : Addr) (s : SpD) (wd : WaD), vs = [.ref sx, .ref wx] ∧ Sees F H ∧ SpAt K CS F sx s ∧ WaAt K CW F wx wd ∧ Bnd s wd ∧
  ∀ (x : Addr) (F' H' : Hp), Gr [] F H F' H' → HeAt K CH CS CW F' x s wd → Q (.ref x) H'
def spNeedPl (K : PySem.W.Frag) (CH CS CW : Addr) : Sp := fun vs H Q _ => ∃ (F : Hp) (x : Addr) (v : V) (d : PyData) (S : List Int) (s : SpD) (wd : WaD), vs = [.ref x, v] ∧ Sees F H ∧ HeAt K CH CS CW F x s wd ∧ Dp K F v d ∧ isSeq d (S.map .int) ∧ isLot d = true ∧ S.length ≤ 5000 ∧ (∀ z ∈ S, z ∈ s.P) ∧ s.P.length < 64 ∧
  ∀ (r : V) (F' H' : Hp), Gr [] F H F' H' → Dp K F' r (.tuple (S.map .int)) → Q r H'
def spNeedRow (K : PySem.W.Frag) (CH CS CW : Addr) : Sp := fun vs H Q _ => ∃ (F : Hp) (x : Addr) (v : V) (d : PyData) (row : List Str) (s : SpD) (wd : WaD), vs = [.ref x, v] ∧ Sees F H ∧ HeAt K CH CS CW F x s wd ∧ Dp K F v d ∧ isSeq d (row.map .str) ∧ (∀ k ∈ row, k ∈ wd.all) ∧
  ∀ (r : V) (F' H' : Hp), Gr [] F H F' H' → Dp K F' r (.tuple (row.map .str)) → Q r H'
def spSilent (K : PySem.W.Frag) (CS CW : Addr) : Sp := fun vs H Q _ => ∃ (F : Hp) (sx wx : Addr) (v : V) (d : PyData) (S : List Int) (s : SpD) (wd : WaD), vs = [.ref sx, .ref wx, v] ∧ Sees F H ∧ SpAt K CS F sx s ∧ WaAt K CW F wx wd ∧ Bnd s wd ∧
  Dp K F v d ∧ isSeq d (S.map .int) ∧ isLot d = true ∧ S.Nodup ∧ S.length ≤ 5000 ∧ (∀ z ∈ S, z ∈ s.P) ∧
  ∀ (r : V) (ns : List Int) (F' H' : Hp), Gr [] F H F' H' → Dp K F' r (.tuple (ns.map .int)) → ns.Pairwise (· < ·) → (∀ q, q ∈ ns ↔ ReachP (trip wd.m s.A) (· ∈ S) q) → Q r H'
def spAfter (K : PySem.W.Frag) (CS CW : Addr) : Sp := fun vs H Q _ => ∃ (F : Hp) (sx wx : Addr) (v : V) (k : Str) (d : PyData) (S : List Int) (s : SpD) (wd : WaD), vs = [.ref sx, .ref wx, v, .str k] ∧ Sees F H ∧ SpAt K CS F sx s ∧ WaAt K CW F wx wd ∧ Bnd s wd ∧
  Dp K F v d ∧ isSeq d (S.map .int) ∧ isLot d = true ∧ S.length ≤ 5000 ∧ (∀ z ∈ S, z ∈ s.P) ∧ k ∈ wd.all ∧
  ∀ (r : V) (ns : List Int) (F' H' : Hp), Gr [] F H F' H' → Dp K F' r (.tuple (ns.map .int)) → ns.Pairwise (· < ·) → (∀ q, q ∈ ns ↔ Beh (trip wd.m s.A) k (· ∈ S) q) → Q r H'
def spKnown (K : PySem.W.Frag) (CS CW : Addr) : Sp := fun vs H Q _ => ∃ (F : Hp) (sx wx : Addr) (v : V) (d : PyData) (row : List Str) (s : SpD) (wd : WaD), vs = [.ref sx, .ref wx, v] ∧ Sees F H ∧ SpAt K CS F sx s ∧ WaAt K CW F wx wd ∧ Bnd s wd ∧ s.S.Nodup ∧ 
  Dp K F v d ∧ isSeq d (row.map .str) ∧ (∀ k ∈ row, k ∈ wd.all) ∧
  ∀ (r : V) (ns : List Int) (F' H' : Hp), Gr [] F H F' H' → Dp K F' r (.tuple (ns.map .int)) → ns.Pairwise (· < ·) → (∀ q, q ∈ ns ↔ Goes (trip wd.m s.A) (ReachP (trip wd.m s.A) (· ∈ s.S)) row q) → Q r H'
section
variable {P : Program} {w : World} {K : PySem.W.Frag} {mg : Str → Option Value} {base : Heap}
theorem ok_need_hearing {f CH CS CW : Addr} {fd : FuncData} (F : Fun K "need_hearing" "need_hearing" s_need_hearing f fd) (C_need_speech : Cal P w K mg base "need_speech" 1 ["value", "part"] [.str "speech"] (spNeedSp K CS)) (C_need_wall : Cal P w K mg base "need_wall" 2 ["value", "speech"] [] (spNeedWa K CS CW))
    (M_Hearing : Mkr P w K mg base "Hearing" CH 1 ["self", "speech", "wall"] (spHeI K CH CS CW)) : FnOk P w K mg base CX0 3 f fd ["speech", "wall"] (spNeedHe K CH CS CW) := by
  refine F.ok sc_need_hearing (fun vs H Q E h => ?_) (fun cdv A outer s H vs Q E hr h => ?_)
  · obtain ⟨F0, sx, wx, s, wd, rfl, _⟩ := h
    rfl
  · obtain ⟨F0, sx, wx, s, wd, rfl, fs, hsp, hwa, b, q⟩ := h
    refine ⟨_, (pss_cons (ps_expr (pe_cal C_need_speech (hr.mono (by decide)) (pa_cons (pv 0) pa_nil)))
      (pss_cons (ps_expr (pe_cal C_need_wall (hr.mono (by decide)) (pa_cons (pv 1) (pa_cons (pv 0) pa_nil))))
      (pss_one (ps_ret (pe_mk M_Hearing (hr.mono (by decide)) (pa_cons (pv 0) (pa_cons (pv 1) pa_nil))))))), ?_⟩
    refine ⟨_, rfl, F0, sx, _, s, rfl, fs, hsp, fun F1 H1 g1 => ?_⟩
    refine ⟨_, rfl, _, rfl, F1, sx, wx, s, wd, rfl, g1.fh, hsp.ex' g1.ff, hwa.ex' g1.ff, b.A, b.Z, fun F2 H2 g2 => ?_⟩
    have g12 := g1.trans g2
    refine ⟨_, rfl, _, rfl, fun x dx hx hdx ne => ?_⟩
    have n1 : upd H2 dx (.own x) x = none := by rw [upd_ne (Ne.symm ne)]; exact hx
    have g3 := (g12.newM (o := .own x) hdx).newM (o := .ins CH dx []) n1
    refine ⟨F2, x, dx, sx, wx, s, wd, rfl, upd_same, g12.fh.dm hx, g3.fh, hsp.ex' g12.ff, hwa.ex' g12.ff, b.A, by have := b.P; omega, b.L, b.m, b.Z, fun F4 H4 g4 fx4 he => ⟨rfl, ?_⟩⟩
    have hx4 : H4 x ≠ none := fun z => by
      have z2 := g4.dm x z
      rw [upd_same] at z2
      cases z2
    obtain ⟨o, ho⟩ := Option.ne_none_iff_exists'.mp hx4
    have hx0 := g12.dm x hx
    rw [ho] at he
    exact q x _ H4 ((g3.trans g4 (fun b hb => .inr (by rw [List.mem_singleton.mp hb]; exact hx0))).done hx0 fx4 ho) he
theorem ok_need_row {f CH CS CW : Addr} {fd : FuncData} (F : Fun K "need_row" "need_row" s_need_row f fd) (T : Txt mg) (TH : HeC K CH) (TW_ : WaC K CW) (C_is_listed : Cal P w K mg base "is_listed" 1 ["value"] [] (spListed K)) : FnOk P w K mg base CX0 2 f fd ["hearing", "value"] (spNeedRow K CH CS CW) := by
  refine F.ok sc_need_row (fun vs H Q E h => ?_) (fun cdv A outer s H vs Q E hr h => ?_)
  · obtain ⟨F0, x, v, d, row, s, wd, rfl, _⟩ := h
    rfl
  · obtain ⟨F0, x, v, d, row, s, wd, rfl, fs, he, hv, hd, mem, q⟩ := h
    obtain ⟨dx, sx, wx, U, L, kU, kL, hx, hsp, ⟨⟨dw, D, vs', va', kvs, hwx, hD, tl, hAll⟩, okw⟩, hU, hL, _, _⟩ := he.un
    refine ⟨_, (pss_cons (ps_if (pt_not (pt_val (pe_cal C_is_listed (hr.mono (by decide)) (pa_cons (pv 1) pa_nil))))
        (pss_one ps_never)
        pss_nil)
      (pss_cons (ps_for PassesOwn.never rfl (pi_enumD K T.enumerate (pa_cons (pv 1) pa_nil)) (zpg (n := 2) K (pgs_cons (zg (i := 2) sc_need_row.nd) (pgs_cons (zg (i := 3) sc_need_row.nd) pgs_nil)))
        (pss_one (ps_if (PW.pt (pw_or (pt_not (pt_val (pe_callB (cr_isi K) (by rfl) T.isinstance bt_isinstance (pa_cons (pv 3) (pa_cons (zty T.str bt_str) pa_nil))))) (pw_or1 (pt_cmpR (op_niK K) (pv 3) (zfld K (zfld K (pv 0))) rfl))))
          (pss_one ps_never)
          pss_nil)))
      (pss_one (ps_ret (pe_callTy (cr_tuple K) (by rfl) T.tuple bt_tuple (pa_cons (pv 1) pa_nil)))))), ?_⟩
    refine ⟨_, rfl, F0, v, _, rfl, fs, hv, fun F1 H1 g1 => ⟨_, rfl, ?_⟩⟩
    rw [show isListed d = true by rcases hd with rfl | rfl <;> rfl]
    refine iteF ?_
    refine ⟨_, rfl, enum_walk (hv.ex g1.ff) hd g1.fh fun J xf G w1 hG hxf hlen => ?_⟩
    rw [hlen, List.length_map] at w1
    refine for_it w1 (fun i σ' H' => ∃ (o2 o3 : Option V) (F' : Hp), σ' = [some (.ref x), some v, o2, o3] ∧ Gr [] F1 H1 F' H') ⟨none, none, F1, rfl, Gr.refl g1.fh⟩ (fun i σ' H' _ ⟨_, _, F', _, g⟩ => hG H' (sees_gr g)) ?_ ?_
    · rintro i y σ' H' H'' hi ⟨o2, o3, F', rfl, g⟩ ⟨T1, x1, y1, rfl, hT1, rfl, h1, h2⟩
      cases h1
      have h2 : xf[i]? = some y1 := h2
      obtain ⟨dd, k1, k2⟩ := hxf.get h2
      rw [List.getElem?_map] at k1
      obtain ⟨k, ka, rfl⟩ := Option.map_eq_some_iff.mp k1
      rw [dp_str] at k2
      subst k2
      have ga := g.new (o := .tup [.int (i : Nat), .str k]) hT1
      have hTa : SqT K (upd H' T1 (.tup [.int (i : Nat), .str k])) T1 [.int (i : Nat), .str k] := .inl (.inl upd_same)
      generalize upd H' T1 (.tup [.int (i : Nat), .str k]) = Ha at ga hTa ⊢
      generalize upd F' T1 (.tup [.int (i : Nat), .str k]) = Fa at ga
      refine ⟨T1, _, rfl, hTa, rfl, _, _, rfl, _, _, rfl, rfl, ?_⟩
      have e0 : Ex F0 Fa := g1.ff.trans ga.ff
      obtain ⟨pa, xa, rfl, hsa, hxa⟩ := dp_tup (hAll.ex e0)
      rw [dps_str] at hxa
      subst hxa
      refine ⟨_, rfl, isi_dp (.str k) rfl ⟨_, rfl, iteF ?_⟩⟩
      refine ⟨_, rfl, _, rfl, x, CH, dx, _, _, rfl, sees_i ga.fh (e0 _ _ hx), TH.cl, TH.nW, rfl, wx, CW, dw, _, _, rfl, sees_i ga.fh (e0 _ _ hwx), TW_.cl, TW_.nA, rfl, ?_⟩
      refine .mk ⟨pa, _, rfl, .inr (sees_t ga.fh hsa), rfl, flat_strs _, _, rfl, ?_⟩
      rw [inV_str (mem k (List.mem_of_getElem? ka))]
      exact iteF ⟨_, _, Fa, rfl, ga⟩
    · rintro σ' H' ⟨o2, o3, F', rfl, g⟩
      exact ⟨_, rfl, tuple_dp ((hv.ex g1.ff).ex g.ff) hd g.fh fun r F3 H3 g3 hr => q r F3 H3 ((g1.trans g).trans g3) hr⟩
theorem ok_known {f CH CS CW : Addr} {fd : FuncData} {v0 : V} (F : FunD K "known" "known" (defArgs s_known) (defBody s_known) (defScope s_known) [v0] [] f fd) (C_need_hearing : Cal P w K mg base "need_hearing" 3 ["speech", "wall"] [] (spNeedHe K CH CS CW)) (C_need_row : Cal P w K mg base "need_row" 2 ["hearing", "value"] [] (spNeedRow K CH CS CW))
    (Me_begun : Met P w K mg base CH "begun" 2 ["self"] (spBegun K CH CS CW)) (Me_behind : Met P w K mg base CH "behind" 2 ["self", "places", "mark"] (spBehind K CH CS CW)) : FnOk P w K mg base CX0 4 f fd ["speech", "wall", "row"] (spKnown K CS CW) := by
  refine okD F sc_known (fun vs H Q E h => ?_) (fun cdv A outer s H vs Q E hr h => ?_)
  · obtain ⟨F0, sx, wx, v, d, row, s, wd, rfl, _⟩ := h
    rfl
  · obtain ⟨F0, sx, wx, v, d, row, s, wd, rfl, fs, hsp, hwa, b, nd, hv, hq, memr, q⟩ := h
    refine ⟨_, (pss_cons (zs (i := 3) sc_known.nd (pe_cal C_need_hearing (hr.mono (by decide)) (pa_cons (pv 0) (pa_cons (pv 1) pa_nil))))
      (pss_cons (zs (i := 4) sc_known.nd (pe_me0 Me_begun (hr.mono (by decide)) (pv 3)))
      (pss_cons (ps_for PassesOwn.never rfl (zseq K (pe_cal C_need_row (hr.mono (by decide)) (pa_cons (pv 3) (pa_cons (pv 2) pa_nil)))) (zg (i := 5) sc_known.nd)
        (pss_one (zs (i := 4) sc_known.nd (pe_me Me_behind (hr.mono (by decide)) (pv 3) (pa_cons (pv 4) (pa_cons (pv 5) pa_nil))))))
      (pss_one (ps_ret (pv 4)))))), ?_⟩
    refine ⟨_, rfl, _, rfl, F0, sx, wx, s, wd, rfl, fs, hsp, hwa, b, fun x F1 H1 g1 he => ?_⟩
    obtain ⟨dx, sx', wx', U, L, kU, kL, hx, _⟩ := he.un
    refine ⟨_, rfl, x, dx, _, rfl, sees_i g1.fh hx, rfl, F1, x, s, wd, rfl, g1.fh, he, nd, b.P, fun r ns F2 H2 g2 hr0 pw0 mem0 => ?_⟩
    refine ⟨_, rfl, _, rfl, F2, x, v, _, row, s, wd, rfl, g2.fh, he.ex' g2.ff, (hv.ex g1.ff).ex g2.ff, hq, memr, fun rr F3 H3 g3 hrr => ?_⟩
    refine seq_walk hrr (.inr rfl) g3.fh fun J xs G w1 hG hxs hlen => ?_
    rw [hlen, List.length_map] at w1
    refine for_it w1 (fun i σ' H' => ∃ (o5 : Option V) (F' : Hp) (r' : V) (ns' : List Int), σ' = [some (.ref sx), some (.ref wx), some v, some (.ref x), some r', o5] ∧ Gr [] F3 H3 F' H' ∧ Dp K F' r' (.tuple (ns'.map .int)) ∧ ns'.Pairwise (· < ·) ∧ ∀ q, q ∈ ns' ↔ Goes (trip wd.m s.A) (ReachP (trip wd.m s.A) (· ∈ s.S)) (row.take i) q)
      ⟨none, F3, r, ns, rfl, Gr.refl g3.fh, hr0.ex g3.ff, pw0, fun k => (mem0 k).trans (reachP (fun _ => Iff.rfl) k)⟩ (fun i σ' H' _ ⟨_, F', _, _, _, g, _⟩ => hG H' (sees_gr g)) ?_ ?_
    · rintro i y σ' H' H'' hi ⟨o5, F', r', ns', rfl, g, hr', pw', mem'⟩ ⟨rfl, hyi⟩
      obtain ⟨d, k1, k2⟩ := hxs.get hyi
      rw [List.getElem?_map] at k1
      obtain ⟨k, ka, rfl⟩ := Option.map_eq_some_iff.mp k1
      rw [dp_str] at k2
      subst k2
      have tk : row.take (i + 1) = row.take i ++ [k] := by rw [List.take_add_one, ka]; rfl
      have e3 : Ex F1 F' := (g2.ff.trans g3.ff).trans g.ff
      refine ⟨_, rfl, x, dx, _, rfl, sees_i g.fh (e3 _ _ hx), rfl, _, rfl, _, rfl, F', x, r', _, ns', k, s, wd, rfl, g.fh, he.ex' e3, hr', .inr rfl, memr k (List.mem_of_getElem? ka), b.P, fun r2 ns2 Tl F4 H4 g4 hd pw memT mem => ⟨_, F4, r2, ns2, rfl, g.trans g4, hd, pw, fun q' => ?_⟩⟩
      rw [tk, Goes.snoc, mem q', reachP memT q']
      exact Beh.congr (S := (· ∈ ns')) mem' q'
    · rintro σ' H' ⟨o5, F', r', ns', rfl, g, hr', pw', mem'⟩
      rw [List.take_length] at mem'
      exact ⟨_, rfl, q r' ns' F' H' (((g1.trans g2).trans g3).trans g) hr' pw' mem'⟩
end
end TW
set_option Elab.async false
set_option linter.all false
set_option maxRecDepth 100000
set_option maxHeartbeats 8000000
/-! what draws -/
namespace TW
open PySem PySem.Spec PyProof.Rows L2 RZ StX
open Evl (Ex)
/-- at p stands what draws; t cells begun -/
structure PenAt (K : PySem.W.Frag) (F H : Hp) (p : Addr) (t : Int) : Prop where
  f : F p = none
  h : ∃ (c : Addr) (r : Int) (cells : List Int), H p = some (.lst [.ref c, .int t, .int r]) ∧ Dp K F (.ref c) (.list (cells.map .int)) ∧ cells.length ≤ 63 ∧ 0 ≤ r ∧ 0 ≤ t
def spPen (K : PySem.W.Frag) : Sp := fun vs H Q _ => ∃ (F : Hp) (v : V) (ns : List Int), vs = [v] ∧ Sees F H ∧ Dp K F v (.list (ns.map .int)) ∧ ∀ p F' H', H p = none → Gr [] F H F' H' → PenAt K F' H' p 0 → Q (.ref p) H'
def spDraw (K : PySem.W.Frag) : Sp := fun vs H Q _ => ∃ (F : Hp) (p : Addr) (many t : Int), vs = [.ref p, .int many] ∧ Sees F H ∧ PenAt K F H p t ∧ t ≤ 1000000 ∧ 0 < many ∧ many < 1073741824 ∧
  ∀ (d t' : Int) F' H', 0 ≤ d → d < many → t ≤ t' → t' ≤ t + 1 → Gr [p] F H F' H' → PenAt K F' H' p t' → Q (.int d) H'
theorem rI0_eq {g : Int → Int → V} {i j : Int} {v : V} {H : Hp} {Q : VK} (e : g i j = v) (q : Q v H) : rI0 g (.int i) (.int j) H Q := ⟨i, j, rfl, rfl, by rw [e]; exact q⟩
theorem rI_eq {C : Int → Int → Prop} {g : Int → Int → V} {i j : Int} {v : V} {H : Hp} {Q : VK} (c : C i j) (e : g i j = v) (q : Q v H) : rI C g (.int i) (.int j) H Q := ⟨i, j, rfl, rfl, c, by rw [e]; exact q⟩
section
variable {P : Program} {w : World} {K : PySem.W.Frag} {mg : Str → Option Value} {base : Heap}
theorem ok_draw {f : Addr} {fd : FuncData} (F : Fun K "_law_draw" "_law_draw" s__law_draw f fd) (T : Txt mg) : FnOk P w K mg base CX0 1 f fd ["pen", "many"] (spDraw K) := by
  refine F.ok sc__law_draw (fun vs H Q E h => ?_) (fun cdv A outer s H vs Q E hr h => ?_)
  · obtain ⟨F0, p, many, t, rfl, _⟩ := h
    rfl
  · obtain ⟨F0, p, many, t, rfl, fs, ⟨fp, c, r, cells, hp, hc, lc, r0, t0⟩, t6, m0, m1, q⟩ := h
    have hu := hu_of hr
    have hu64 := hr.units
    refine ⟨_, (pss_cons (ps_if (pt_cmpR op_gt (pe_ix (ix_LT K) (pv 0) pe_int (fun _ _ => rfl)) pe_int (nomark _))
        (pss_cons (zs (i := 2) sc__law_draw.nd (pe_callTy call_int1 (by rfl) T.int bt_int (pa_cons (pe_ix (ix_LT K) (pv 0) pe_int (fun _ _ => rfl)) pa_nil)))
        (pss_cons (ps_asg (pe_op op_fdiv (pv 2) (pv 1)) (pg_sub (pv 0) pe_int set_list))
        (pss_one (ps_ret (pe_op op_mod (pe_callTy call_int1 (by rfl) T.int bt_int (pa_cons (pv 2) pa_nil)) (pv 1))))))
        pss_nil)
      (pss_cons (zs (i := 3) sc__law_draw.nd (pe_ix (ix_LT K) (pv 0) pe_int (fun _ _ => rfl)))
      (pss_cons (ps_asg (pe_op op_add (pv 3) pe_int) (pg_sub (pv 0) pe_int set_list))
      (pss_cons (zs (i := 4) sc__law_draw.nd (pe_op op_add (pe_op op_mul pe_int (pv 3)) pe_int))
      (pss_cons (ps_if (pt_cmpR (op_neDD K hu64) (pe_ix (ix_LT K) (pv 0) pe_int (fun _ _ => rfl)) (pe_lst pa_nil) (nomark _))
        (pss_one (zs (i := 4) sc__law_draw.nd (pe_ix (ix_LT K) (pe_ix (ix_LT K) (pv 0) pe_int (fun _ _ => rfl)) (pe_op op_mod (pe_callTy call_int1 (by rfl) T.int bt_int (pa_cons (pv 3) pa_nil)) (pe_callB (cr_len K) (by rfl) T.len bt_len (pa_cons (pe_ix (ix_LT K) (pv 0) pe_int (fun _ _ => rfl)) pa_nil))) (fun _ _ => rfl))))
        pss_nil)
      (pss_cons (ps_if (PW.pt (pw_and (pt_cmpR op_lt (pv 3) (pe_callB (cr_len K) (by rfl) T.len bt_len (pa_cons (pe_ix (ix_LT K) (pv 0) pe_int (fun _ _ => rfl)) pa_nil)) (nomark _)) (pw_and1 (pt_cmpR op_ge (pe_callB call_abs (by rfl) T.abs bt_abs (pa_cons (pv 4) pa_nil)) (pe_op op_pow pe_int pe_int) (nomark _)))))
        (pss_cons (zs (i := 2) sc__law_draw.nd (pe_op op_add (pe_op op_mul pe_int (pe_op op_sub (pe_callB call_abs (by rfl) T.abs bt_abs (pa_cons (pv 4) pa_nil)) (pe_op op_pow pe_int pe_int))) (pe_callTy call_int1 (by rfl) T.int bt_int (pa_cons (pe_cmpR op_lt (pv 4) pe_int (nomark _)) pa_nil))))
        (pss_cons (ps_asg (pe_op op_fdiv (pe_callTy call_int1 (by rfl) T.int bt_int (pa_cons (pv 2) pa_nil)) (pv 1)) (pg_sub (pv 0) pe_int set_list))
        (pss_one (ps_ret (pe_op op_mod (pe_callTy call_int1 (by rfl) T.int bt_int (pa_cons (pv 2) pa_nil)) (pv 1))))))
        pss_nil)
      (pss_cons (zs (i := 5) sc__law_draw.nd (pe_op op_mod (pe_callTy call_int1 (by rfl) T.int bt_int (pa_cons (pe_op op_pow (pe_op op_add (pe_op op_add (pe_op op_mod (pe_callTy call_int1 (by rfl) T.int bt_int (pa_cons (pv 4) pa_nil)) pe_int) (pe_op op_mul pe_int (pv 3))) pe_int) pe_int) pa_nil)) pe_int))
      (pss_cons (zs (i := 5) sc__law_draw.nd (pe_op op_mod (pe_callTy call_int1 (by rfl) T.int bt_int (pa_cons (pe_op op_pow (pe_op op_add (pe_op op_add (pe_op op_mul (pv 5) (pe_op op_add (pe_op op_mul pe_int (pv 3)) pe_int)) (pe_op op_mul (pe_op op_mul pe_int (pv 3)) (pv 3))) pe_int) pe_int) pa_nil)) pe_int))
      (pss_one (ps_ret (pe_op op_mod (pe_callTy call_int1 (by rfl) T.int bt_int (pa_cons (pe_op op_fdiv (pv 5) pe_int) pa_nil)) (pv 1)))))))))))), ?_⟩
    refine ⟨_, rfl, .mk (.inl ⟨p, _, 2, _, rfl, rfl, .inl (.inl hp), rfl, _, _, rfl, rfl, _, rfl, ?_⟩)⟩
    have pm : p ∈ [p] := List.mem_singleton.mpr rfl
    -- how the rest is drawn from
    have draw : ∀ (rest t' : Int) (F' H' : Hp), 0 ≤ rest → 0 ≤ t' → t ≤ t' → t' ≤ t + 1 → Gr [p] F0 H F' H' → F' p = none → H' p = some (.lst [.ref c, .int t', .int (rest / many)]) → Q (.int (rest % many)) H' := fun rest t' F' H' h0 ht h1 h2 g hf hh =>
      q _ t' F' H' (Int.emod_nonneg _ (by omega)) (Int.emod_lt_of_pos _ m0) h1 h2 g ⟨hf, c, _, cells, hh, hc.ex g.ff, lc, Int.ediv_nonneg h0 (by omega), ht⟩
    by_cases hr0 : 0 < r
    · refine iteYes (decide_eq_true hr0) ?_
      refine ⟨_, rfl, .mk (.inl ⟨p, _, 2, _, rfl, rfl, .inl (.inl hp), rfl, .inl ⟨_, rfl, ?_⟩⟩)⟩
      refine ⟨_, rfl, _, rfl, _, _, rfl, rfl, ⟨m0, m1⟩, _, rfl, p, _, 2, 2, rfl, rfl, hp, rfl, ?_⟩
      refine ⟨_, rfl, .inl ⟨_, rfl, _, rfl, _, _, rfl, rfl, m0, ?_⟩⟩
      exact draw r t F0 _ r0 t0 (Int.le_refl _) (by omega) ((Gr.refl fs).mut fp (.inl pm)) fp upd_same
    · refine iteNo (by rw [decide_eq_true_eq]; exact hr0) ?_
      have er : r = 0 := by omega
      subst er
      -- turn
      refine ⟨_, rfl, .mk (.inl ⟨p, _, 1, _, rfl, rfl, .inl (.inl hp), rfl, ?_⟩)⟩
      refine ⟨_, rfl, _, _, rfl, rfl, _, rfl, p, _, 1, 1, rfl, rfl, hp, rfl, ?_⟩
      have g1 := (Gr.refl (B := [p]) fs).mut (o := .lst (List.set [.ref c, .int t, .int 0] 1 (.int (t + 1)))) fp (.inl pm)
      have hp1 : upd H p (.lst (List.set [.ref c, .int t, .int 0] 1 (.int (t + 1)))) p = some (.lst [.ref c, .int (t + 1), .int 0]) := upd_same
      generalize upd H p (.lst (List.set [.ref c, .int t, .int 0] 1 (.int (t + 1)))) = H1 at g1 hp1 ⊢
      have ix0 : ∀ {F' H' : Hp} {Q : VK}, H' p = some (.lst [.ref c, .int (t + 1), .int 0]) → Q (.ref c) H' → rIxD K (.ref p) (.int 0) H' Q := fun h q => .mk (.inl ⟨p, _, 0, _, rfl, rfl, .inl (.inl h), rfl, q⟩)
      -- cell
      obtain ⟨z, hz0⟩ : ∃ z, 20381 * t + 2067 = z := ⟨_, rfl⟩
      refine ⟨_, rfl, _, _, rfl, rfl, .inl ⟨by decide, by decide⟩, _, _, rfl, rfl, ?_⟩
      simp only [hz0]
      clear hz0
      refine ⟨_, rfl, .mk (.inl ⟨p, _, 0, _, rfl, rfl, .inl (.inl hp1), rfl, ?_⟩)⟩
      refine ⟨Nat.zero_le _, fun l hl => .mk ⟨.list (cells.map .int), .list [], hc.sees (fun a o e => ((g1.newM (o := .lst []) hl).fh a o e)), .lst (.inl (.inl upd_same)) .nil, ?_, rfl, _, rfl, ?_⟩⟩
      · exact PySem.W.ke_shaped_ints cells
      have g2 := g1.newM (o := .lst []) hl
      have hp2 : upd H1 l (.lst []) p = some (.lst [.ref c, .int (t + 1), .int 0]) := by rw [upd_ne (ne_of_none hp1 hl)]; exact hp1
      generalize upd H1 l (.lst []) = H2 at g2 hp2 ⊢
      have ev : PyData.eqv (.list (cells.map .int)) (.list []) = decide (cells = []) := by
        cases cells with
        | nil => simp [PyData.eqv, PyData.eqvAll]
        | cons a b => simp [PyData.eqv, PyData.eqvAll]
      rw [ev]
      have hix : ∀ {Q : VK}, Q (.ref c) H2 → rIxD K (.ref p) (.int 0) H2 Q := fun q => .mk (.inl ⟨p, _, 0, _, rfl, rfl, .inl (.inl hp2), rfl, q⟩)
      have hc2 := hc.ex g2.ff
      have two63 : ∀ x : Int, 0 ≤ x → x < 2147483649 → -(2 ^ 64) < x ∧ x < 2 ^ 64 := fun x h0 h1 => by omega
      by_cases hce : cells = []
      refine iteNo (by rw [decide_eq_true hce]; decide) ?_
      rotate_left
      refine iteYes (by rw [decide_eq_false hce]; rfl) ?_
      have lpos : 0 < cells.length := List.length_pos_iff.mpr hce
      refine ⟨_, rfl, hix ⟨_, rfl, .inl ⟨_, rfl, _, rfl, hix ?_⟩⟩⟩
      refine len_dp hc2 (.inl rfl) g2.fh ⟨_, _, rfl, rfl, by rw [List.length_map]; omega, ?_⟩
      obtain ⟨j, hj, ej⟩ : ∃ j, j < cells.length ∧ t % ((cells.map PyData.int).length : Int) = (j : Int) := by
        rw [List.length_map]
        have z1 := Int.emod_nonneg t (b := (cells.length : Int)) (by omega)
        have z2 := Int.emod_lt_of_pos t (b := (cells.length : Int)) (by omega)
        exact ⟨(t % (cells.length : Int)).toNat, by omega, by omega⟩
      refine ix_dp hc2 (.inl rfl) g2.fh (e := .int cells[j]) (by rw [ej]; exact atI_nat (by rw [List.getElem?_map, List.getElem?_eq_getElem hj]; rfl)) fun r hr => ?_
      rw [dp_int] at hr
      subst hr
      generalize cells[j] = z
      all_goals
        refine ⟨_, rfl, _, rfl, hix (len_dp hc2 (.inl rfl) g2.fh ⟨_, _, rfl, rfl, _, rfl, ?_⟩)⟩
        by_cases hg : (t < ((cells.map PyData.int).length : Int)) ∧ (10 : Int) ^ (18 : Int).toNat ≤ (if z < 0 then -z else z)
        · refine iteYes (decide_eq_true hg.1) ?_
          refine ⟨_, rfl, _, rfl, _, _, rfl, rfl, ⟨by decide, by decide, by decide⟩, _, _, rfl, rfl, _, rfl, ?_⟩
          refine iteYes (decide_eq_true hg.2) ?_
          refine ⟨_, rfl, _, rfl, _, _, rfl, rfl, ⟨by decide, by decide, by decide⟩, _, _, rfl, rfl, _, _, rfl, rfl, .inl ⟨by decide, by decide⟩, ?_⟩
          refine ⟨_, rfl, _, _, rfl, rfl, .inr ⟨_, rfl, _, _, rfl, rfl, ?_⟩⟩
          refine ⟨_, rfl, .inl ⟨_, rfl, _, rfl, _, _, rfl, rfl, ⟨m0, m1⟩, _, rfl, p, _, 2, 2, rfl, rfl, hp2, rfl, ?_⟩⟩
          refine ⟨_, rfl, .inl ⟨_, rfl, _, rfl, _, _, rfl, rfl, m0, ?_⟩⟩
          refine draw _ (t + 1) F0 _ ?_ (by omega) (by omega) (Int.le_refl _) (g2.mut fp (.inl pm)) fp upd_same
          have hg2 := hg.2
          have e18 : (10 : Int) ^ (18 : Int).toNat = 1000000000000000000 := by decide
          rw [e18] at hg2 ⊢
          split <;> omega
        · by_cases hl1 : t < ((cells.map PyData.int).length : Int)
          refine iteYes (decide_eq_true hl1) ?_
          refine ⟨_, rfl, _, rfl, _, _, rfl, rfl, ⟨by decide, by decide, by decide⟩, _, _, rfl, rfl, _, rfl, ?_⟩
          refine iteNo (by rw [decide_eq_true_eq]; exact fun h => hg ⟨hl1, h⟩) ?_
          rotate_left
          refine iteNo (by rw [decide_eq_true_eq]; exact hl1) ?_
          refine iteNo (by decide) ?_
          all_goals
            have z1 := Int.emod_nonneg z (b := 2147483549) (by decide)
            have z2 := Int.emod_lt_of_pos z (b := 2147483549) (by decide)
            refine ⟨_, rfl, .inl ⟨_, rfl, _, _, rfl, rfl, (by show (0 : Int) < 2147483549; decide), _, rfl, _, _, rfl, rfl, .inl ⟨by decide, by decide⟩, _, _, rfl, rfl, _, _, rfl, rfl, _, _, rfl, rfl, ⟨by decide, by decide, by omega⟩, .inl ⟨_, rfl, _, _, rfl, rfl, (by show (0 : Int) < 2147483629; decide), ?_⟩⟩⟩
            have m2 := Int.emod_nonneg ((z % 2147483549 + 20381 * t + 2067) ^ (5 : Int).toNat) (b := 2147483629) (by decide)
            have m3 := Int.emod_lt_of_pos ((z % 2147483549 + 20381 * t + 2067) ^ (5 : Int).toNat) (b := 2147483629) (by decide)
            obtain ⟨m, hm⟩ : ∃ m, (z % 2147483549 + 20381 * t + 2067) ^ (5 : Int).toNat % 2147483629 = m := ⟨_, rfl⟩
            rw [hm] at m2 m3
            simp only [hm]
            have b1 : 0 ≤ m * (2 * t + 6133) := Int.mul_nonneg m2 (by omega)
            have b2 : m * (2 * t + 6133) ≤ 2147483629 * 2006133 := Int.mul_le_mul (by omega) (by omega) (by omega) (by decide)
            have b3 : 0 ≤ 30197 * t * t := Int.mul_nonneg (by omega) t0
            have b4 : 30197 * t * t ≤ 30197000000 * 1000000 := Int.mul_le_mul (by omega) t6 t0 (by decide)
            refine ⟨_, rfl, _, rfl, _, _, rfl, rfl, .inl ⟨by decide, by decide⟩, _, _, rfl, rfl, _, _, rfl, rfl, .inl ⟨by omega, by omega⟩, _, rfl, _, _, rfl, rfl, .inl ⟨by decide, by decide⟩, _, rfl, _, _, rfl, rfl, .inr ⟨by omega, by omega⟩, _, _, rfl, rfl, _, _, rfl, rfl, _, _, rfl, rfl,
              ⟨by decide, by decide, by omega⟩, .inl ⟨_, rfl, _, _, rfl, rfl, (by show (0 : Int) < 2147483587; decide), ?_⟩⟩
            refine ⟨_, rfl, _, _, rfl, rfl, ⟨by decide, by decide⟩, .inl ⟨_, rfl, _, rfl, _, _, rfl, rfl, m0, ?_⟩⟩
            exact q _ (t + 1) F0 _ (Int.emod_nonneg _ (by omega)) (Int.emod_lt_of_pos _ m0) (by omega) (Int.le_refl _) g2 ⟨fp, c, 0, cells, hp2, hc, lc, Int.le_refl _, by omega⟩
end
end TW
set_option Elab.async false
set_option linter.all false
set_option maxRecDepth 100000
set_option maxHeartbeats 8000000
/-! what is drawn -/
namespace TW
open PySem PySem.Spec PyProof.Rows L2 RZ StX
open Evl (Ex)
/-- a turn whose test is not known ahead -/
def TurnQ (B : List Addr) (g : TG) (tt : TT) (te : TE) (vs : List Nat) (σ : L2.St) (x : V) (F H : Hp) (R : V → Hp → Hp → Prop) (R0 : Hp → Hp → Prop) : Prop :=
  ∀ (Yes : V → Hp → Prop) (No : Hp → Prop), (∀ F3 H3, Gr B F H F3 H3 → R0 F3 H3 → No H3) → (∀ y F3 H3, Gr B F H F3 H3 → R y F3 H3 → Yes y H3) →
    g x (wipe σ vs) H fun σ2 H2 => wipe σ2 vs = wipe σ vs ∧ tt σ2 H2 fun b H3 => if b = true then te σ2 H3 Yes else No H3
section
variable {K : PySem.W.Frag} {J : It} {n : Nat} {G : Hp → Prop} {Y : Nat → Hp → V → Hp → Prop} {g : TG} {tt : TT} {te : TE} {vs : List Nat} {σ : L2.St} {F H1 : Hp} {D : Addr} {Qd : Hp → Prop}
/-- a comprehension whose test is drawn, with a state of its own (Pv: turn, what is made, finished objects, heap) -/
theorem lc_stQ {B : List Addr} (w : Walk J n G Y) (sees : Sees F H1) (hB : ∀ b ∈ B, H1 b ≠ none) (Pv : Nat → List V → Hp → Hp → Prop) (hP : ∀ i acc F' H' D o, Pv i acc F' H' → H1 D = none → Pv i acc F' (upd H' D o))
    (hG : ∀ i acc F' H', i ≤ n → Gr B F H1 F' H' → Pv i acc F' H' → G H') (h0 : Pv 0 [] F H1) (hz : n ≤ 100000)
    (hs : ∀ i acc x F' H' H'', i < n → acc.length ≤ i → Gr B F H1 F' H' → Pv i acc F' H' → Y i H' x H'' → ∃ F'', Gr B F' H' F'' H'' ∧ TurnQ B g tt te vs σ x F'' H'' (fun y F3 H3 => Pv (i + 1) (acc ++ [y]) F3 H3) (fun F3 H3 => Pv (i + 1) acc F3 H3))
    (hD : H1 D = none) (q : ∀ acc F' H', Gr B F H1 F' H' → F' D = none → H' D = some (.lst acc) → Pv n acc F' H' → Qd H') : LcW J g tt te vs σ H1 D Qd := by
  have lz : 100000 < sizeLine := by rw [sizeLine_eq]; decide
  have nB : D ∉ B := fun h => hB D h hD
  refine lc_it w (fun i H' => ∃ acc F', acc.length ≤ i ∧ Gr B F H1 F' H' ∧ F' D = none ∧ H' D = some (.lst acc) ∧ Pv i acc F' H')
    ⟨[], F, Nat.le_refl _, (Gr.refl sees).newM hD, sees.dm hD, upd_same, hP _ _ _ _ _ _ h0 hD⟩ (fun i H' hi ⟨acc, F', _, gr, _, _, p⟩ => hG i acc F' H' hi gr p) (fun i x H' H'' hi ⟨acc, F', hl, gr, fD, hDc, p⟩ hy => ?_) fun H' ⟨acc, F', _, gr, fD, hDc, p⟩ => q acc F' H' gr fD hDc p
  obtain ⟨F'', g1, t⟩ := hs i acc x F' H' H'' hi hl gr p hy
  have g1' := gr.trans g1 fun b hb => .inl hb
  have nn : ¬ IsNT (H' D) := by rw [hDc]; exact fun z => nomatch z
  refine t _ _ (fun F3 H3 g3 p3 => ⟨acc, F3, by omega, g1'.trans g3 fun b hb => .inl hb, ?_, ?_, p3⟩) fun y F3 H3 g3 p3 => ⟨acc, ?_, by omega, acc ++ [y], F3, by simp; omega, (g1'.trans g3 fun b hb => .inl hb).mut ?_ (.inr hD), ?_, upd_same, hP _ _ _ _ _ _ p3 hD⟩
  · exact (g1.trans g3 fun b hb => .inl hb).none' fD nn
  · exact (g1.trans g3 fun b hb => .inl hb).hh D _ nB hDc
  · exact (g1.trans g3 fun b hb => .inl hb).hh D _ nB hDc
  · exact (g1.trans g3 fun b hb => .inl hb).none' fD nn
  · exact (g1.trans g3 fun b hb => .inl hb).none' fD nn
end
def spSome (K : PySem.W.Frag) : Sp := fun vs H Q _ => ∃ (F : Hp) (p : Addr) (v : V) (d : PyData) (ds : List PyData) (t : Int), vs = [.ref p, v] ∧ Sees F H ∧ PenAt K F H p t ∧ t + ds.length ≤ 1000000 ∧ Dp K F v d ∧ isSeq d ds ∧ ds.length ≤ 1000 ∧
  ∀ (L : Addr) (xs : List V) (es : List PyData) (t' : Int) F' H', es.Sublist ds → F' L = some (.lst xs) → DpAll K F' xs es → t ≤ t' → t' ≤ t + ds.length → Gr [p] F H F' H' → PenAt K F' H' p t' → Q (.ref L) H'
theorem PenAt.at {K : PySem.W.Frag} {F H : Hp} {p : Addr} {t : Int} (h : PenAt K F H p t) : ∃ o, H p = some o := by
  obtain ⟨_, c, r, cells, h1, _⟩ := h
  exact ⟨_, h1⟩
theorem PenAt.upd' {K : PySem.W.Frag} {F H : Hp} {p D : Addr} {t : Int} {o : HO} (h : PenAt K F H p t) (n : p ≠ D) : PenAt K F (upd H D o) p t := by
  obtain ⟨f, c, r, cells, h1, h2⟩ := h
  exact ⟨f, c, r, cells, by rw [upd_ne n]; exact h1, h2⟩
/-- what grows without the pen -/
theorem PenAt.gr {K : PySem.W.Frag} {B : List Addr} {F H F' H' : Hp} {p : Addr} {t : Int} (h : PenAt K F H p t) (g : Gr B F H F' H') (n : p ∉ B) : PenAt K F' H' p t := by
  obtain ⟨f, c, r, cells, h1, h2, h3⟩ := h
  exact ⟨g.none' f (by rw [h1]; exact fun z => nomatch z), c, r, cells, g.hh p _ n h1, h2.ex g.ff, h3⟩
def flat1 : PyData → Bool
  | .int _ => true
  | .str x => PyData.strOk x
  | _ => false
theorem flat1_lay : ∀ {ds : List PyData}, (∀ d ∈ ds, flat1 d = true) → PyData.canLayAll0 ds = true ∧ PyData.depthAll ds ≤ 1
  | [], _ => ⟨by simp [PyData.canLayAll0], by simp [PyData.depthAll]⟩
  | d :: r, h => by
    obtain ⟨h1, h2⟩ := flat1_lay (ds := r) fun e he => h e (List.mem_cons_of_mem _ he)
    have hd := h d List.mem_cons_self
    cases d <;> simp [flat1] at hd <;> simp [PyData.canLayAll0, PyData.depthAll, PyData.canLay0, PyData.depth, h1, hd] <;> omega
theorem flat1_shaped {ds : List PyData} (h : ∀ d ∈ ds, flat1 d = true) : SeqAt.shaped (.list ds) = true := by
  obtain ⟨h1, h2⟩ := flat1_lay h
  simp [SeqAt.shaped, PyData.canLay0, PyData.depth, h1]
  omega
theorem eqv_nil (ds : List PyData) : PyData.eqv (.list ds) (.list []) = decide (ds = []) := by
  cases ds with
  | nil => simp [PyData.eqv, PyData.eqvAll]
  | cons a b => simp [PyData.eqv, PyData.eqvAll]
theorem DpAll.erase {K : PySem.W.Frag} {F : Hp} {xs : List V} {ds : List PyData} (h : DpAll K F xs ds) (k : Nat) : DpAll K F (xs.eraseIdx k) (ds.eraseIdx k) := by
  rw [List.eraseIdx_eq_take_drop_succ, List.eraseIdx_eq_take_drop_succ]
  exact (DpAll.take k h).append (DpAll.drop (k + 1) h)
def spShuf (K : PySem.W.Frag) : Sp := fun vs H Q _ => ∃ (F : Hp) (p : Addr) (v : V) (d : PyData) (ds : List PyData) (t : Int), vs = [.ref p, v] ∧ Sees F H ∧ PenAt K F H p t ∧ t + ds.length ≤ 1000000 ∧ Dp K F v d ∧ isSeq d ds ∧ ds.length ≤ 1000 ∧ (∀ e ∈ ds, flat1 e = true) ∧
  ∀ (r : V) (es : List PyData) (t' : Int) F' H', es.Perm ds → Dp K F' r (.list es) → t ≤ t' → t' ≤ t + ds.length → Gr [p] F H F' H' → PenAt K F' H' p t' → Q r H'
def spPick (K : PySem.W.Frag) : Sp := fun vs H Q _ => ∃ (F : Hp) (p : Addr) (v : V) (d : PyData) (ds : List PyData) (t : Int), vs = [.ref p, v] ∧ Sees F H ∧ PenAt K F H p t ∧ t ≤ 1000000 ∧ Dp K F v d ∧ isSeq d ds ∧ 0 < ds.length ∧ ds.length ≤ 100000 ∧
  ∀ (r : V) (e : PyData) (t' : Int) F' H', e ∈ ds → Dp K F' r e → t ≤ t' → t' ≤ t + 1 → Gr [p] F H F' H' → PenAt K F' H' p t' → Q r H'
section
variable {P : Program} {w : World} {K : PySem.W.Frag} {mg : Str → Option Value} {base : Heap}
theorem ok_pen {f : Addr} {fd : FuncData} (F : Fun K "_law_pen" "_law_pen" s__law_pen f fd) (T : Txt mg) : FnOk P w K mg base CX0 1 f fd ["script"] (spPen K) := by
  refine F.ok sc__law_pen (fun vs H Q E h => ?_) (fun cdv A outer s H vs Q E hr h => ?_)
  · obtain ⟨F0, v, ns, rfl, _⟩ := h
    rfl
  · obtain ⟨F0, v, ns, rfl, fs, hv, q⟩ := h
    refine ⟨_, (pss_one (ps_ret (pe_lst (pa_cons (pe_lc (own := [("cell", 1)]) rfl sc__law_pen.nd (zseq K (pe_slice (sl_LA K) (pv 0) po_none (po_some pe_int))) (blkOk_by (N := sc__law_penN) (sc := defScope s__law_pen) (by decide +kernel)) (fun _ _ _ _ _ => (zg (i := 1) sc__law_pen.nd)) (fun _ _ _ _ _ => pts_nil) (fun _ _ _ _ _ => (pe_callTy call_int1 (by rfl) T.int bt_int (pa_cons (pv 1) pa_nil)))) (pa_cons pe_int (pa_cons pe_int pa_nil)))))), ?_⟩
    refine ⟨v, rfl, _, rfl, slQ_dp hv (.inl rfl) fs fun r e F1 H1 g1 tw hr1 => ?_⟩
    rw [show cutD (ns.map PyData.int) none (some 63) = (ns.take 63).map PyData.int by rw [show (63 : Int) = ((63 : Nat) : Int) from rfl, cutD_to, List.map_take]] at tw
    refine seq_walk hr1 tw.r g1.fh fun J xs G w1 hG hxs hlen D hD => ?_
    refine lc_seqM (bs := ns.take 63) (enc := .int) (f := .int) w1 hxs g1.fh hG (by rw [List.length_take]; omega) (fun b y F' H' hb g2 hy => turn1 rfl fun Yes h => ?_) hD fun acc F2 H2 g2 fD hDc hacc => ?_
    · rw [dp_int] at hy
      subst hy
      exact ⟨_, rfl, .inl ⟨_, rfl, h _ _ _ (Gr.refl g2.fh) (.int b)⟩⟩
    · refine ⟨by show 3 ≤ sizeLine; rw [sizeLine_eq]; decide, fun p hp => ?_⟩
      have gd := (g1.trans g2).done (g1.dm _ hD) fD hDc
      have gp := gd.newM (o := .lst [.ref D, .int 0, .int 0]) hp
      refine q p _ _ (gd.dm p hp) gp ⟨gd.fh.dm hp, D, 0, ns.take 63, upd_same, .lst (.inl (.inl upd_same)) (hacc.ex (Ex.new fD)), by rw [List.length_take]; omega, Int.le_refl _, Int.le_refl _⟩
theorem ok_pick {f : Addr} {fd : FuncData} (F : Fun K "_law_pick" "_law_pick" s__law_pick f fd) (T : Txt mg) (C__law_draw : Cal P w K mg base "_law_draw" 1 ["pen", "many"] [] (spDraw K)) : FnOk P w K mg base CX0 2 f fd ["pen", "some"] (spPick K) := by
  refine F.ok sc__law_pick (fun vs H Q E h => ?_) (fun cdv A outer s H vs Q E hr h => ?_)
  · obtain ⟨F0, p, v, d, ds, t, rfl, _⟩ := h
    rfl
  · obtain ⟨F0, p, v, d, ds, t, rfl, fs, hp, ht, hv, hq, l0, l1, q⟩ := h
    refine ⟨_, (pss_one (ps_ret (pe_ix (ix_LT K) (pv 1) (pe_cal C__law_draw (hr.mono (by decide)) (pa_cons (pv 0) (pa_cons (pe_callB (cr_len K) (by rfl) T.len bt_len (pa_cons (pv 1) pa_nil)) pa_nil))) (fun _ _ => rfl)))), ?_⟩
    refine ⟨_, rfl, _, rfl, _, rfl, len_dp hv hq fs ⟨F0, p, _, t, rfl, fs, hp, ht, by omega, by omega, fun i t' F1 H1 i0 i1 t1 t2 g1 hp1 => ?_⟩⟩
    obtain ⟨j, rfl⟩ : ∃ j : Nat, i = (j : Int) := ⟨i.toNat, by omega⟩
    have hj : j < ds.length := by omega
    refine ix_dp (hv.ex g1.ff) hq g1.fh (e := ds[j]) (atI_nat (List.getElem?_eq_getElem hj)) fun r hr => ?_
    exact q r _ t' F1 H1 (List.getElem_mem hj) hr t1 t2 g1 hp1
theorem ok_shuffled {f : Addr} {fd : FuncData} (F : Fun K "_law_shuffled" "_law_shuffled" s__law_shuffled f fd) (T : Txt mg) (C__law_draw : Cal P w K mg base "_law_draw" 1 ["pen", "many"] [] (spDraw K)) : FnOk P w K mg base CX0 2 f fd ["pen", "some"] (spShuf K) := by
  refine F.ok sc__law_shuffled (fun vs H Q E h => ?_) (fun cdv A outer s H vs Q E hr h => ?_)
  · obtain ⟨F0, p, v, d, ds, t, rfl, _⟩ := h
    rfl
  · obtain ⟨F0, p, v, d, ds, t, rfl, fs, hp, ht, hv, hq, l1, fl, q⟩ := h
    have hu := hu_of hr
    have hu64 := hr.units
    have lz : 100000 < sizeLine := by rw [sizeLine_eq]; decide
    refine ⟨_, (pss_cons (zpar (i := 2) (j := 3) sc__law_shuffled.nd (pa_cons (pe_callTy (cr_list K) (by rfl) T.list bt_list (pa_cons (pv 1) pa_nil)) (pa_cons (pe_lst pa_nil) pa_nil)))
      (pss_cons (ps_while PassesOwn.never (pt_cmpR (op_neDD K hu64) (pv 2) (pe_lst pa_nil) (nomark _))
        (pss_one (ps_expr (pe_bm PySem.F.plainAttrs_list PySem.F.slot_list_append PySem.F.type_list_append mt_append (pv 3) (pa_cons (pe_bm PySem.F.plainAttrs_list PySem.F.slot_list_pop PySem.F.type_list_pop mt_popAt (pv 2) (pa_cons (pe_cal C__law_draw (hr.mono (by decide)) (pa_cons (pv 0) (pa_cons (pe_callB (cr_len K) (by rfl) T.len bt_len (pa_cons (pv 2) pa_nil)) pa_nil))) pa_nil)) pa_nil)))))
      (pss_one (ps_ret (pv 3))))), ?_⟩
    obtain ⟨op, hpo⟩ := hp.at
    refine ⟨_, rfl, list_dp hv hq fs fun R ys F1 H1 g1 nR fR1 hR1 hys => ?_⟩
    refine ⟨Nat.zero_le _, fun L hL => ⟨_, _, rfl, ?_⟩⟩
    have g2 := g1.newM (o := .lst []) hL
    have nL : H L = none := g1.dm _ hL
    have pR : p ≠ R := ne_of_none hpo nR
    have pL : p ≠ L := ne_of_none hpo nL
    have RL : R ≠ L := ne_of_none hR1 hL
    have hR2 : upd H1 L (.lst []) R = some (.lst ys) := by rw [upd_ne RL]; exact hR1
    have hL2 : upd H1 L (.lst []) L = some (.lst []) := upd_same
    have hp2 := hp.gr g2 (by simp)
    have fL1 := g1.fh.dm hL
    generalize upd H1 L (.lst []) = H2 at g2 hR2 hL2 hp2 ⊢
    refine ⟨fun m σ' H' => ∃ (F' : Hp) (xs fs' : List V) (rs es : List PyData) (t' : Int), σ' = [some (.ref p), some v, some (.ref R), some (.ref L)] ∧ Gr [p, R, L] F1 H2 F' H' ∧ F' R = none ∧ F' L = none ∧ H' R = some (.lst xs) ∧ H' L = some (.lst fs') ∧ DpAll K F' xs rs ∧ DpAll K F' fs' es ∧ (rs ++ es).Perm ds ∧
        PenAt K F' H' p t' ∧ t ≤ t' ∧ t' ≤ t + es.length ∧ m = rs.length,
      ⟨_, F1, ys, [], ds, [], t, rfl, Gr.refl g2.fh, fR1, fL1, hR2, hL2, hys, .nil, by simp, hp2, Int.le_refl _, by simp, rfl⟩, ?_⟩
    rintro m σ' H' ⟨F', xs, fs', rs, es, t', rfl, g, fR', fL', hR', hL', hxs, hes, pm, hp', t1, t2, em⟩
    have len := pm.length_eq
    rw [List.length_append] at len
    have frs : ∀ e ∈ rs, flat1 e = true := fun e he => fl e (pm.mem_iff.mp (by simp [he]))
    refine ⟨_, rfl, Nat.zero_le _, fun l hl => .mk ⟨.list rs, .list [], ?_, .lst (.inl (.inl upd_same)) .nil, flat1_shaped frs, rfl, _, rfl, ?_⟩⟩
    · exact .lst (.inl (.inl (by rw [upd_ne (ne_of_none hR' hl)]; exact hR'))) (DpAll.sees (g.newM (o := .lst []) hl).fh hxs)
    rw [eqv_nil]
    have ga := g.newM (o := .lst []) hl
    have hRa : upd H' l (.lst []) R = some (.lst xs) := by rw [upd_ne (ne_of_none hR' hl)]; exact hR'
    have hLa : upd H' l (.lst []) L = some (.lst fs') := by rw [upd_ne (ne_of_none hL' hl)]; exact hL'
    have hpa : PenAt K F' (upd H' l (.lst [])) p t' := hp'.upd' (ne_of_none hp'.at.choose_spec hl)
    generalize upd H' l (.lst []) = Ha at ga hRa hLa hpa ⊢
    have gB : ∀ {F'' H''}, Gr [p, R, L] F1 H2 F'' H'' → Gr [p] F0 H F'' H'' := fun g => (g2.mono (B' := [p]) (fun b hb => absurd hb (by simp))).trans g fun b hb => by
      rcases List.mem_cons.mp hb with rfl | hb
      · exact .inl (by simp)
      rcases List.mem_cons.mp hb with rfl | hb
      · exact .inr nR
      · rw [List.mem_singleton.mp hb]; exact .inr nL
    by_cases hrs : rs = []
    · refine iteNo (by rw [decide_eq_true hrs]; decide) ?_
      subst hrs
      have gd := (gB ga).done nL fL' hLa
      refine ⟨_, rfl, q (.ref L) es t' _ _ pm (.lst (.inl (.inl upd_same)) (hes.ex (Ex.new fL'))) t1 (by simp at len; omega) gd ?_⟩
      obtain ⟨f, c, r, cells, a1, a2, a3⟩ := hpa
      exact ⟨by rw [upd_ne pL]; exact f, c, r, cells, a1, a2.ex (Ex.new fL'), a3⟩
    · refine iteYes (by rw [decide_eq_false hrs]; rfl) ?_
      have lpos : 0 < rs.length := List.length_pos_iff.mpr hrs
      have lx := hxs.length
      refine ⟨_, fun σ' H' h => h, ?_⟩
      refine ⟨_, rfl, .inl ⟨rfl, _, .inl (.inl hLa)⟩, _, rfl, .inl ⟨rfl, _, .inl (.inl hRa)⟩, _, rfl, _, rfl, .mk ⟨R, xs, rfl, .inl (.inl (.inl hRa)), ?_⟩⟩
      refine ⟨F', p, _, t', rfl, ga.fh, hpa, by omega, by omega, by omega, fun i t3 F3 H3 i0 i1 u1 u2 g3 hp3 => ?_⟩
      obtain ⟨j, rfl⟩ : ∃ j : Nat, i = (j : Int) := ⟨i.toNat, by omega⟩
      have hj : j < xs.length := by omega
      have hjr : j < rs.length := by omega
      have hR3 : H3 R = some (.lst xs) := g3.hh R _ (by simp [Ne.symm pR]) hRa
      have hL3 : H3 L = some (.lst fs') := g3.hh L _ (by simp [Ne.symm pL]) hLa
      have fR3 := g3.none' fR' (by rw [hRa]; exact fun z => nomatch z)
      have fL3 := g3.none' fL' (by rw [hLa]; exact fun z => nomatch z)
      refine ⟨R, xs, _, j, xs[j], rfl, rfl, hR3, by omega, by omega, (ixN_seq (Evl.ixN_nat hj)).1, List.getElem?_eq_getElem hj, ?_⟩
      have hL4 : upd H3 R (.lst (xs.eraseIdx j)) L = some (.lst fs') := by rw [upd_ne (Ne.symm RL)]; exact hL3
      refine ⟨L, fs', _, rfl, rfl, hL4, by have := hes.length; omega, ?_⟩
      have gm := ((ga.trans g3 (fun b hb => .inl (by rw [List.mem_singleton.mp hb]; simp))).mut (o := .lst (xs.eraseIdx j)) fR3 (.inl (by simp))).mut (o := .lst (fs' ++ [xs[j]])) fL3 (.inl (by simp))
      have hgj : DpAll K F3 [xs[j]] [rs[j]] := by
        obtain ⟨d', h1, h2⟩ := hxs.get (List.getElem?_eq_getElem hj)
        rw [List.getElem?_eq_getElem hjr] at h1
        cases h1
        exact .cons (h2.ex g3.ff) .nil
      refine ⟨(rs.eraseIdx j).length, by rw [List.length_eraseIdx_of_lt hjr]; omega, F3, _, _, rs.eraseIdx j, es ++ [rs[j]], t3, rfl, gm, fR3, fL3, by rw [upd_ne RL]; exact upd_same, upd_same, DpAll.erase (hxs.ex g3.ff) j, (hes.ex g3.ff).append hgj, ?_, (hp3.upd' pR).upd' pL, by omega, by simp; omega, rfl⟩
      have z : (rs[j] :: rs.eraseIdx j).Perm rs := by
        have e : rs.take j ++ rs[j] :: rs.drop (j + 1) = rs := by rw [List.getElem_cons_drop, List.take_append_drop]
        rw [List.eraseIdx_eq_take_drop_succ]
        have z := (List.perm_middle (a := rs[j]) (l₁ := rs.take j) (l₂ := rs.drop (j + 1))).symm
        rw [e] at z
        exact z
      refine List.Perm.trans ?_ pm
      refine List.Perm.trans ?_ (z.append_right es)
      rw [← List.append_assoc]
      exact (List.perm_append_comm (l₁ := rs.eraseIdx j ++ es) (l₂ := [rs[j]]))
end
end TW
set_option Elab.async false
set_option linter.all false
set_option maxRecDepth 100000
set_option maxHeartbeats 8000000
/-! drawn arrows -/
namespace TW
open PySem PySem.Spec PyProof.Rows L2 RZ StX
open Evl (Ex)
structure rNiDD (K : PySem.W.Frag) (x y : V) (H : Hp) (Q : VK) : Prop where
  r : rNotInD K x y H Q
theorem op_niDD {X : Cx} (K : PySem.W.Frag) (hu : X.A.units + 65 < cLine) (hK : X.K = K := by rfl) : OpR X (compareOp .NotIn) (rNiDD K) := by subst hK; exact fun pins s σ H x y v u Q I rx ry h => op_notInD hu pins s σ H x y v u Q I rx ry h.r
theorem hu65_of {A : Around} {k : Nat} (hr : Room k A) : A.units + 65 < cLine := by have := hr.un; omega
theorem sees_lst {F H : Hp} {a : Addr} {xs : List V} (s : Sees F H) (h : F a = some (.lst xs)) : H a = some (.lst xs) := (s a _ h).resolve_right fun ⟨_, _, e, _⟩ => nomatch e
theorem encA_lay : ∀ {A : List Arr}, (∀ a ∈ A, PyData.strOk a.2.1 = true) → PyData.canLayAll0 (A.map encA) = true ∧ PyData.depthAll (A.map encA) ≤ 2
  | [], _ => ⟨by simp [PyData.canLayAll0], by simp [PyData.depthAll]⟩
  | a :: r, h => by
    obtain ⟨h1, h2⟩ := encA_lay (A := r) fun e he => h e (List.mem_cons_of_mem _ he)
    have ha := h a List.mem_cons_self
    simp [PyData.canLayAll0, PyData.depthAll, PyData.canLay0, PyData.depth, h1, ha, encA]
    omega
theorem encAs_shaped {A : List Arr} (h : ∀ a ∈ A, PyData.strOk a.2.1 = true) : SeqAt.shaped (.list (A.map encA)) = true := by
  obtain ⟨h1, h2⟩ := encA_lay h
  simp [SeqAt.shaped, PyData.canLay0, PyData.depth, h1]
  omega
theorem encA_any (A : List Arr) (a : Arr) : ((A.map encA).any fun z => PyData.eqv z (encA a)) = decide (a ∈ A) := by
  rw [List.any_map]
  induction A with
  | nil => rfl
  | cons b r ih =>
    rw [List.any_cons, ih]
    show (PyData.eqv (encA b) (encA a) || _) = _
    rw [encA_eqv]
    simp [eq_comm, Bool.decide_or]
def spArrows (K : PySem.W.Frag) : Sp := fun vs H Q _ => ∃ (F : Hp) (p : Addr) (v : V) (sounds : List Str) (many : Int) (number : Nat) (t : Int), vs = [.ref p, .int many, v, .int number] ∧ Sees F H ∧ PenAt K F H p t ∧ t + 3 * number ≤ 1000000 ∧ 0 < many ∧ many < 1000 ∧ number ≤ 1000 ∧
  Dp K F v (.list (sounds.map .str)) ∧ 0 < sounds.length ∧ sounds.length ≤ 1000 ∧ (∀ z ∈ sounds, PyData.strOk z = true) ∧
  ∀ (r : V) (A : List Arr) (t' : Int) F' H', A.Nodup → A.length ≤ number → (∀ a ∈ A, 0 ≤ a.1 ∧ a.1 < many ∧ a.2.1 ∈ sounds ∧ 0 ≤ a.2.2 ∧ a.2.2 < many) → Dp K F' r (.list (A.map encA)) → t ≤ t' → t' ≤ t + 3 * number → Gr [p] F H F' H' → PenAt K F' H' p t' → Q r H'
section
variable {P : Program} {w : World} {K : PySem.W.Frag} {mg : Str → Option Value} {base : Heap}
theorem ok_arrows {f : Addr} {fd : FuncData} (F : Fun K "_law_arrows" "_law_arrows" s__law_arrows f fd) (T : Txt mg) (C__law_draw : Cal P w K mg base "_law_draw" 1 ["pen", "many"] [] (spDraw K)) (C__law_pick : Cal P w K mg base "_law_pick" 2 ["pen", "some"] [] (spPick K)) :
    FnOk P w K mg base CX0 3 f fd ["pen", "many", "sounds", "number"] (spArrows K) := by
  refine F.ok sc__law_arrows (fun vs H Q E h => ?_) (fun cdv A outer s H vs Q E hr h => ?_)
  · obtain ⟨F0, p, v, sounds, many, number, t, rfl, _⟩ := h
    rfl
  · obtain ⟨F0, p, v, sounds, many, number, t, rfl, fs, hp, ht, m0, m1, n1, hv, s0, s1, sOk, q⟩ := h
    have hu65 := hu65_of hr
    have lz : 100000 < sizeLine := by rw [sizeLine_eq]; decide
    refine ⟨_, (pss_cons (zs (i := 4) sc__law_arrows.nd (pe_lst pa_nil))
      (pss_cons (ps_for PassesOwn.never rfl (pi_range1 rfl T.range (pa_cons (pv 3) pa_nil)) (zg (i := 5) sc__law_arrows.nd)
        (pss_cons (zs (i := 6) sc__law_arrows.nd (pe_tup (pa_cons (pe_cal C__law_draw (hr.mono (by decide)) (pa_cons (pv 0) (pa_cons (pv 1) pa_nil))) (pa_cons (pe_cal C__law_pick (hr.mono (by decide)) (pa_cons (pv 0) (pa_cons (pv 2) pa_nil))) (pa_cons (pe_cal C__law_draw (hr.mono (by decide)) (pa_cons (pv 0) (pa_cons (pv 1) pa_nil))) pa_nil)))))
        (pss_one (zs (i := 4) sc__law_arrows.nd (pe_op op_cat (pv 4) (pe_ifExp (pt_cmpR (op_niDD K hu65) (pv 6) (pv 4) rfl) (pe_lst (pa_cons (pv 6) pa_nil)) (pe_lst pa_nil)))))))
      (pss_one (ps_ret (pv 4))))), ?_⟩
    obtain ⟨op, hpo⟩ := hp.at
    refine ⟨Nat.zero_le _, fun L0 hL0 => ?_⟩
    have g0 := (Gr.refl (B := [p]) fs).new (o := .lst []) hL0
    have hp0 : PenAt K (upd F0 L0 (.lst [])) (upd H L0 (.lst [])) p t := hp.gr ((Gr.refl (B := []) fs).new hL0) (by simp)
    have hL1 : upd F0 L0 (.lst []) L0 = some (.lst []) := upd_same
    generalize upd H L0 (.lst []) = H1 at g0 hp0 ⊢
    generalize upd F0 L0 (.lst []) = F1 at g0 hp0 hL1
    refine ⟨_, rfl, number, rfl, by omega, by omega, ?_⟩
    rw [Int.toNat_natCast]
    refine for_it walk_range (fun i σ' H' => ∃ (o5 o6 : Option V) (F' : Hp) (L : Addr) (xs : List V) (A : List Arr) (t' : Int), σ' = [some (.ref p), some (.int many), some v, some (.int number), some (.ref L), o5, o6] ∧ Gr [p] F0 H F' H' ∧ F' L = some (.lst xs) ∧ DpAll K F' xs (A.map encA) ∧ A.Nodup ∧ A.length ≤ i ∧
        (∀ a ∈ A, 0 ≤ a.1 ∧ a.1 < many ∧ a.2.1 ∈ sounds ∧ 0 ≤ a.2.2 ∧ a.2.2 < many) ∧ PenAt K F' H' p t' ∧ t ≤ t' ∧ t' ≤ t + 3 * i)
      ⟨none, none, F1, L0, [], [], t, rfl, g0, hL1, .nil, List.nodup_nil, Nat.zero_le _, by simp, hp0, Int.le_refl _, by omega⟩ (fun _ _ _ _ _ => True.intro) ?_ ?_
    · rintro i y σ' H' H'' hi ⟨o5, o6, F', L, xs, A, t', rfl, g, hL, hxs, nd, lA, okA, hp', u1, u2⟩ ⟨rfl, rfl⟩
      -- the arrow
      refine ⟨_, rfl, _, rfl, F', p, many, t', rfl, g.fh, hp', by omega, m0, by omega, fun d1 t1 F2 H2 a1 a2 v1 v2 g2 hp2 => ?_⟩
      refine ⟨_, rfl, _, rfl, F2, p, v, _, _, t1, rfl, g2.fh, hp2, by omega, (hv.ex g.ff).ex g2.ff, .inl rfl, by rw [List.length_map]; exact s0, by rw [List.length_map]; omega, fun rz ez t2 F3 H3 em hz v3 v4 g3 hp3 => ?_⟩
      obtain ⟨z, zm, rfl⟩ := List.mem_map.mp em
      rw [dp_str] at hz
      subst hz
      refine ⟨_, rfl, _, rfl, F3, p, many, t2, rfl, g3.fh, hp3, by omega, m0, by omega, fun d2 t3 F4 H4 b1 b2 v5 v6 g4 hp4 => ?_⟩
      refine ⟨by show 3 ≤ sizeLine; omega, fun Ta hTa => ?_⟩
      have g14 := ((g.trans g2 (fun b hb => .inl hb)).trans g3 (fun b hb => .inl hb)).trans g4 (fun b hb => .inl hb)
      have e4 : Ex F' F4 := (g2.ff.trans g3.ff).trans g4.ff
      have hp5 : PenAt K (upd F4 Ta (.tup [.int d1, .str z, .int d2])) (upd H4 Ta (.tup [.int d1, .str z, .int d2])) p t3 := hp4.gr ((Gr.refl (B := []) g4.fh).new hTa) (by simp)
      have g5 := g14.new (o := .tup [.int d1, .str z, .int d2]) hTa
      have e5 := e4.trans (Ex.new (o := HO.tup [.int d1, .str z, .int d2]) (g4.fh.dm hTa))
      have hT5 : Dp K (upd F4 Ta (.tup [.int d1, .str z, .int d2])) (.ref Ta) (encA (d1, z, d2)) := .tup (.inl (.inl upd_same)) (.cons (.int _) (.cons (.str _) (.cons (.int _) .nil)))
      generalize upd H4 Ta (.tup [.int d1, .str z, .int d2]) = H5 at g5 hp5 ⊢
      generalize upd F4 Ta (.tup [.int d1, .str z, .int d2]) = F5 at g5 hp5 e5 hT5
      have hL5 := e5 _ _ hL
      have hx5 := hxs.ex e5
      have sOkA : ∀ a ∈ A, PyData.strOk a.2.1 = true := fun a ha => sOk _ (okA a ha).2.2.1
      -- found + ..
      refine ⟨_, rfl, _, rfl, _, rfl, .mk ⟨encA (d1, z, d2), A.map encA, Dp.sees g5.fh hT5, Dp.sees g5.fh (.lst (.inl (.inl hL5)) hx5), encA_shaped _ (sOk z zm), encAs_shaped sOkA, _, rfl, ?_⟩⟩
      rw [encA_any]
      have lx := hx5.length
      rw [List.length_map] at lx
      by_cases hin : (d1, z, d2) ∈ A
      · refine iteNo (by rw [decide_eq_true hin]; decide) ⟨Nat.zero_le _, fun M hM => ?_⟩
        have g6 := g5.newM (o := .lst []) hM
        have hp6 := hp5.upd' (o := .lst []) (ne_of_none hp5.at.choose_spec hM)
        refine ⟨L, M, xs, [], rfl, rfl, sees_lst g6.fh hL5, upd_same, by simp; omega, fun N hN => ?_⟩
        have hp7 := hp6.gr ((Gr.refl (B := []) g6.fh).new (o := .lst (xs ++ [])) hN) (by simp)
        refine ⟨_, _, _, N, xs ++ [], A, t3, rfl, g6.new hN, upd_same, by rw [List.append_nil]; exact hx5.ex (Ex.new (g6.fh.dm hN)), nd, by omega, okA, hp7, by omega, by omega⟩
      · refine iteYes (by rw [decide_eq_false hin]; rfl) ⟨_, rfl, by show 1 ≤ sizeLine; omega, fun M hM => ?_⟩
        have g6 := g5.newM (o := .lst [.ref Ta]) hM
        have hp6 := hp5.upd' (o := .lst [.ref Ta]) (ne_of_none hp5.at.choose_spec hM)
        refine ⟨L, M, xs, [.ref Ta], rfl, rfl, sees_lst g6.fh hL5, upd_same, by simp; omega, fun N hN => ?_⟩
        have hp7 := hp6.gr ((Gr.refl (B := []) g6.fh).new (o := .lst (xs ++ [.ref Ta])) hN) (by simp)
        have e7 := Ex.new (o := HO.lst (xs ++ [.ref Ta])) (g6.fh.dm hN)
        refine ⟨_, _, _, N, xs ++ [.ref Ta], A ++ [(d1, z, d2)], t3, rfl, g6.new hN, upd_same, by rw [List.map_append]; exact (hx5.ex e7).append (.cons (hT5.ex e7) .nil), List.nodup_append.mpr ⟨nd, by simp, fun a ha b hb e => hin (by rw [← List.mem_singleton.mp hb, ← e]; exact ha)⟩, by simp; omega, fun a ha => ?_, hp7, by omega, by omega⟩
        rw [List.mem_append, List.mem_singleton] at ha
        rcases ha with ha | rfl
        · exact okA a ha
        · exact ⟨a1, a2, zm, b1, b2⟩
    · rintro σ' H' ⟨o5, o6, F', L, xs, A, t', rfl, g, hL, hxs, nd, lA, okA, hp', u1, u2⟩
      exact ⟨_, rfl, q (.ref L) A t' F' H' nd lA okA (.lst (.inl (.inl hL)) hxs) u1 u2 g hp'⟩
end
end TW
set_option Elab.async false
set_option linter.all false
set_option maxRecDepth 100000
set_option maxHeartbeats 8000000
/-! the law's own steps -/
namespace TW
open PySem PySem.Spec PyProof.Rows L2 RZ StX
open Evl (Ex)
def spPlaces (K : PySem.W.Frag) : Sp := fun vs H Q _ => ∃ (F : Hp) (va vb : V) (A : List Arr) (S : List Int), vs = [va, vb] ∧ Sees F H ∧ Dp K F va (.list (A.map encA)) ∧ Dp K F vb (.list (S.map .int)) ∧ A.length ≤ 1000 ∧ S.length ≤ 1000 ∧
  ∀ (r : V) (ns : List Int) F' H', ns.Pairwise (· < ·) → (∀ k, k ∈ ns ↔ k ∈ S ∨ (∃ a ∈ A, a.1 = k) ∨ ∃ a ∈ A, a.2.2 = k) → Dp K F' r (.list (ns.map .int)) → Gr [] F H F' H' → Q r H'
theorem inV_strs (k : Str) (l : List Str) : inV (.str k) (l.map V.str) = decide (k ∈ l) := by
  unfold inV
  rw [List.any_map]
  induction l with
  | nil => rfl
  | cons b r ih =>
    rw [List.any_cons, ih]
    show ((b == k) || _) = _
    by_cases h : b = k
    · simp [h]
    · have h' : ¬ k = b := fun e => h e.symm
      rw [show (b == k) = false from beq_eq_false_iff_ne.mpr h]
      simp [h']
theorem filter_le' {α : Type} {p q : α → Bool} : ∀ {A : List α}, (∀ a ∈ A, p a = true → q a = true) → (A.filter p).length ≤ (A.filter q).length
  | [], _ => Nat.le_refl _
  | b :: r, h => by
    have ih := filter_le' (A := r) fun a ha => h a (List.mem_cons_of_mem _ ha)
    have hb := h b List.mem_cons_self
    rw [List.filter_cons, List.filter_cons]
    cases hp : p b <;> cases hq : q b <;> simp_all <;> omega
theorem filter_lt' {α : Type} {p q : α → Bool} : ∀ {A : List α}, (∀ a ∈ A, p a = true → q a = true) → (∃ a ∈ A, q a = true ∧ p a = false) → (A.filter p).length < (A.filter q).length
  | [], _, ⟨_, h, _⟩ => absurd h (by simp)
  | b :: r, h, ⟨a, ha, qa, pa⟩ => by
    have hr := fun a ha => h a (List.mem_cons_of_mem b ha)
    have hb := h b List.mem_cons_self
    have le := filter_le' hr
    rcases List.mem_cons.mp ha with rfl | ha
    · rw [List.filter_cons, List.filter_cons, qa, pa]
      simp
      omega
    · have ih := filter_lt' hr ⟨a, ha, qa, pa⟩
      rw [List.filter_cons, List.filter_cons]
      cases hp : p b <;> cases hq : q b <;> simp_all <;> omega
/-- one round of the law's closing -/
def rnd (A : List Arr) (m : Str → List Str) (ns : List Int) : List Int := (A.filter fun a => decide (a.1 ∈ ns) && decide (("" : Str) ∈ m a.2.1)).map fun a => a.2.2
def spLClosed (K : PySem.W.Frag) : Sp := fun vs H Q _ => ∃ (F : Hp) (va vc : V) (a : Addr) (dS : PyData) (kvs : List (Key × V)) (ks : List Str) (m : Str → List Str) (A : List Arr) (S : List Int), vs = [va, .ref a, vc] ∧ Sees F H ∧ Dp K F va (.list (A.map encA)) ∧ F a = some (.dK kvs) ∧ Tells K F kvs ks m .list ∧ (∀ b ∈ A, b.2.1 ∈ ks) ∧
  Dp K F vc dS ∧ isSeq dS (S.map .int) ∧ A.length ≤ 500 ∧ S.length ≤ 1000 ∧
  ∀ (r : V) (ns : List Int) F' H', ns.Pairwise (· < ·) → (∀ k, k ∈ ns ↔ ReachP (trip m A) (· ∈ S) k) → Dp K F' r (.tuple (ns.map .int)) → Gr [] F H F' H' → Q r H'
def spLBehind (K : PySem.W.Frag) : Sp := fun vs H Q _ => ∃ (F : Hp) (va vc : V) (k : Str) (a : Addr) (dS : PyData) (kvs : List (Key × V)) (ks : List Str) (m : Str → List Str) (A : List Arr) (S : List Int), vs = [va, .ref a, vc, .str k] ∧ Sees F H ∧ Dp K F va (.list (A.map encA)) ∧ F a = some (.dK kvs) ∧ Tells K F kvs ks m .list ∧ (∀ b ∈ A, b.2.1 ∈ ks) ∧
  Dp K F vc dS ∧ isSeq dS (S.map .int) ∧ A.length ≤ 500 ∧ S.length ≤ 1000 ∧
  ∀ (r : V) (ns : List Int) F' H', ns.Pairwise (· < ·) → (∀ q, q ∈ ns ↔ Beh (trip m A) k (· ∈ S) q) → Dp K F' r (.tuple (ns.map .int)) → Gr [] F H F' H' → Q r H'
section
variable {P : Program} {w : World} {K : PySem.W.Frag} {mg : Str → Option Value} {base : Heap}
end
end TW
set_option Elab.async false
set_option linter.all false
set_option maxRecDepth 100000
set_option maxHeartbeats 8000000
/-! the law's own steps, second part -/
namespace TW
open PySem PySem.Spec PyProof.Rows L2 RZ StX
open Evl (Ex)
def spAllMarks (K : PySem.W.Frag) : Sp := fun vs H Q _ => ∃ (F : Hp) (va : V) (a : Addr) (kvs : List (Key × V)) (ks : List Str) (m : Str → List Str), vs = [va, .ref a] ∧ Sees F H ∧ F a = some (.dK kvs) ∧ H a = some (.dK kvs) ∧ Tells K F kvs ks m .list ∧ ks.length ≤ 100 ∧ (∀ k ∈ ks, (m k).length ≤ 6 ∧ (m k).Nodup) ∧
  ∀ (r : V) (ms : List Str) F' H', ms.Nodup → (∀ z, z ∈ ms ↔ z ≠ "" ∧ ∃ k ∈ ks, z ∈ m k) → Dp K F' r (.list (ms.map .str)) → Gr [] F H F' H' → Q r H'
section
variable {P : Program} {w : World} {K : PySem.W.Frag} {mg : Str → Option Value} {base : Heap}
theorem ok_all_marks {f : Addr} {fd : FuncData} (F : Fun K "_law_all_marks" "_law_all_marks" s__law_all_marks f fd) (T : Txt mg) : FnOk P w K mg base CX0 1 f fd ["arrows", "marks"] (spAllMarks K) := by
  refine F.ok sc__law_all_marks (fun vs H Q E h => ?_) (fun cdv A outer s H vs Q E hr h => ?_)
  · obtain ⟨F0, va, a, kvs, ks, m, rfl, _⟩ := h
    rfl
  · obtain ⟨F0, va, a, kvs, ks, m, rfl, fs, fa, ha, tl, zk, okm, q⟩ := h
    have hu := hu_of hr
    have hu16 := hu16_of hr
    have lz : 100000 < sizeLine := by rw [sizeLine_eq]; decide
    refine ⟨_, (pss_cons (zs (i := 2) sc__law_all_marks.nd (pe_lst pa_nil))
      (pss_cons (ps_for PassesOwn.never rfl (zseq K (pe_callB (cr_sortedD K hu16) (by rfl) T.sorted bt_sorted (pa_cons (pe_callTy (call_listD rfl) (by rfl) T.list bt_list (pa_cons (pv 1) pa_nil)) pa_nil))) (zg (i := 3) sc__law_all_marks.nd)
        (pss_one (zs (i := 2) sc__law_all_marks.nd (pe_op op_cat (pv 2) (pe_lc (own := [("mark", 4)]) rfl sc__law_all_marks.nd (zseq K (pe_dget hu (pv 1) (pv 3) (fun _ _ => rfl))) (blkOk_by (N := sc__law_all_marksN) (sc := defScope s__law_all_marks) (by decide +kernel)) (fun _ _ _ _ _ => (zg (i := 4) sc__law_all_marks.nd)) (fun _ _ _ _ _ => (pts_one (PW.pt (pw_and (pt_cmpR op_ne (pv 4) pe_str (nomark _)) (pw_and1 (pt_cmpR (op_niK K) (pv 4) (pv 2) rfl)))))) (fun _ _ _ _ _ => (pv 4)))))))
      (pss_one (ps_ret (pe_callB (cr_sortedD K hu16) (by rfl) T.sorted bt_sorted (pa_cons (pv 2) pa_nil)))))), ?_⟩
    refine ⟨Nat.zero_le _, fun L0 hL0 => ?_⟩
    have g0 := (Gr.refl (B := []) fs).new (o := .lst []) hL0
    have f0 : upd F0 L0 (.lst []) L0 = some (.lst []) := upd_same
    have e0 : Ex F0 (upd F0 L0 (.lst [])) := g0.ff
    generalize upd H L0 (.lst []) = H1 at g0 ⊢
    generalize upd F0 L0 (.lst []) = F1 at g0 f0 e0
    refine ⟨_, rfl, a, kvs, rfl, sees_d g0.fh (e0 _ _ fa), fun p1 hp1 => ?_⟩
    rw [tells_keys tl]
    have g1 := g0.newM (o := .lst (ks.map V.str)) hp1
    refine ⟨Str, eS, ks, p1, ks.map V.str, F1, rfl, g1.fh, .inl (.inl upd_same), dps_str.mpr rfl, alikeS ks, sortableS ks, fun b _ => eS_depth b, fun ys p2 hy hp2 => ?_⟩
    generalize ek : ks.mergeSort (PySem.W.dataLe false eS) = ks2 at hy
    have pk : ks2.Perm ks := ek ▸ List.mergeSort_perm _ _
    have hys := dps_str.mp hy
    subst hys
    have g2 := g1.new (o := .lst (ks2.map V.str)) hp2
    have s2 : upd F1 p2 (.lst (ks2.map V.str)) p2 = some (.lst (ks2.map V.str)) := upd_same
    have e1 := Ex.new (o := HO.lst (ks2.map V.str)) (g1.fh.dm hp2)
    have f2 := e1 _ _ f0
    have e2 := e0.trans e1
    generalize upd (upd H1 p1 (.lst (ks.map V.str))) p2 (.lst (ks2.map V.str)) = H2 at g2 ⊢
    generalize upd F1 p2 (.lst (ks2.map V.str)) = F2 at g2 s2 f2 e2
    refine seq_walk (d := .list (ks2.map .str)) (.lst (.inl (.inl s2)) (dps_str.mpr rfl)) (.inl rfl) g2.fh fun J xs G w1 hG hxs hlen => ?_
    rw [hlen, List.length_map] at w1
    refine for_it w1 (fun i σ' H' => ∃ (o3 o4 : Option V) (F' : Hp) (L : Addr) (l : List Str), σ' = [some va, some (.ref a), some (.ref L), o3, o4] ∧ Gr [] F2 H2 F' H' ∧ F' L = some (.lst (l.map V.str)) ∧ l.Nodup ∧ l.length ≤ 6 * i ∧ ∀ z : Str, z ∈ l ↔ z ≠ "" ∧ ∃ k ∈ ks2.take i, z ∈ m k)
      ⟨none, none, F2, L0, [], rfl, Gr.refl g2.fh, f2, List.nodup_nil, Nat.zero_le _, by simp⟩ (fun i σ' H' _ ⟨_, _, F', _, _, _, g, _⟩ => hG H' (sees_gr g)) ?_ ?_
    · rintro i y σ' H' H'' hi ⟨o3, o4, F', L, l, rfl, g, hL, nd, ll, mem⟩ ⟨rfl, hyi⟩
      obtain ⟨d, k1, k2⟩ := hxs.get hyi
      rw [List.getElem?_map] at k1
      obtain ⟨b, hb, rfl⟩ := Option.map_eq_some_iff.mp k1
      rw [dp_str] at k2
      subst k2
      have bm : b ∈ ks := pk.mem_iff.mp (List.mem_of_getElem? hb)
      obtain ⟨m6, mnd⟩ := okm b bm
      obtain ⟨v', v1, v2⟩ := tl.va b bm
      have eF : Ex F0 F' := e2.trans g.ff
      have i100 : i < 100 := by have := pk.length_eq; omega
      have tk : ks2.take (i + 1) = ks2.take i ++ [b] := by rw [List.take_add_one, hb]; rfl
      refine ⟨_, rfl, _, rfl, _, rfl, a, v', rfl, .inl ⟨kvs, Sum.inr b, sees_d g.fh (eF _ _ fa), rfl, v1.symm⟩, seq_walk (v2.ex eF) (.inl rfl) g.fh fun J2 us G2 w2 hG2 hus hlen2 D hD => ?_⟩
      refine lc_seqP (bs := m b) (enc := .str) (p := fun z => decide (z ≠ "") && !decide (z ∈ l)) (f := .str) w2 hus g.fh hG2 (by omega) (fun z y F1 H1 hz g1 hy => ?_) hD fun acc F3 H3 g3 fD hDc hacc => ?_
      · rw [dp_str] at hy
        subst hy
        intro Yes No n0 n1
        refine ⟨rfl, _, rfl, rfl, _, rfl, ?_⟩
        by_cases c1 : z = ""
        · exact iteNo (by simp [c1]) (n0 (by simp [c1]) _ _ (Gr.refl g1.fh) True.intro)
        · refine iteYes (by simp [c1]) ⟨_, rfl, _, rfl, .mk ⟨L, _, rfl, .inl (.inl (.inl (sees_lst g1.fh (g1.ff _ _ hL)))), rfl, flat_strs _, _, rfl, ?_⟩⟩
          rw [inV_strs]
          by_cases c2 : z ∈ l
          · exact iteNo (by simp [c2]) (n0 (by simp [c2]) _ _ (Gr.refl g1.fh) True.intro)
          · exact iteYes (by simp [c2]) ⟨_, rfl, n1 (by simp [c1, c2]) _ _ _ (Gr.refl g1.fh) (.str _)⟩
      · rw [dps_str] at hacc
        subst hacc
        have l2l : ((m b).filter fun z : Str => decide (z ≠ "") && !decide (z ∈ l)).length ≤ 6 := Nat.le_trans (List.length_filter_le _ _) m6
        refine ⟨L, D, _, _, rfl, rfl, sees_lst g3.fh (g3.ff _ _ hL), hDc, by rw [List.length_map, List.length_map]; omega, fun N hN => ?_⟩
        refine ⟨_, _, _, N, l ++ (m b).filter (fun z : Str => decide (z ≠ "") && !decide (z ∈ l)), rfl, (g.trans g3).new hN, by rw [List.map_append]; exact upd_same, List.nodup_append.mpr ⟨nd, mnd.sublist List.filter_sublist, fun x hx y hy e => ?_⟩, by rw [List.length_append]; omega, fun z => ?_⟩
        · subst e
          have := (List.mem_filter.mp hy).2
          simp [hx] at this
        · rw [List.mem_append, List.mem_filter, tk]
          by_cases c1 : z = ""
          · have nl : z ∉ l := fun h => ((mem z).mp h).1 c1
            simp [c1, nl]
            rw [← c1]
            exact nl
          · by_cases c2 : z ∈ l
            · have c3 := ((mem z).mp c2).2
              simp [c1, c2]
              obtain ⟨k, hk1, hk2⟩ := c3
              exact .inl ⟨k, hk1, hk2⟩
            · have c3 : ¬ ∃ k ∈ ks2.take i, z ∈ m k := fun h => c2 ((mem z).mpr ⟨c1, h⟩)
              simp [c1, c2, or_and_right, exists_or, c3]
    · rintro σ' H' ⟨o3, o4, F', L, l, rfl, g, hL, nd, ll, mem⟩
      rw [List.take_length] at mem
      have gg := (g2.trans g)
      refine ⟨_, rfl, Str, eS, l, L, l.map V.str, F', rfl, g.fh, .inl (.inl (sees_lst g.fh hL)), dps_str.mpr rfl, alikeS l, sortableS l, fun b _ => eS_depth b, fun ys p hy hp => ?_⟩
      have pm : (l.mergeSort (PySem.W.dataLe false eS)).Perm l := List.mergeSort_perm _ _
      have gE := gg.new (o := .lst ys) hp
      refine q (.ref p) _ _ _ (pm.nodup_iff.mpr nd) (fun z => ?_) (.lst (.inl (.inl upd_same)) (hy.ex (Ex.new (g.fh.dm hp)))) gE
      rw [pm.mem_iff, mem z]
      exact and_congr Iff.rfl (exists_congr fun k => and_congr pk.mem_iff Iff.rfl)
end
end TW
set_option Elab.async false
set_option linter.all false
set_option maxRecDepth 100000
set_option maxHeartbeats 4000000
/-! the plain law: what is known, with places, sounds, marks renamed -/
namespace TW
open PySem PySem.Spec PyProof.Rows L2
theorem ReachP.mono {R R' : List (Int × Str × Int)} {S S' : Int → Prop} (hR : ∀ t, t ∈ R → t ∈ R') (hS : ∀ z, S z → S' z) {q : Int} (h : ReachP R S q) : ReachP R' S' q := by
  induction h with
  | base h => exact .base (hS _ h)
  | step _ e ih => exact .step ih (hR _ e)
theorem ReachP.same {R R' : List (Int × Str × Int)} {S S' : Int → Prop} (hR : ∀ t, t ∈ R ↔ t ∈ R') (hS : ∀ z, S z ↔ S' z) (q : Int) : ReachP R S q ↔ ReachP R' S' q :=
  ⟨.mono (fun t => (hR t).mp) fun z => (hS z).mp, .mono (fun t => (hR t).mpr) fun z => (hS z).mpr⟩
theorem Beh.same {R R' : List (Int × Str × Int)} {k : Str} {S S' : Int → Prop} (hR : ∀ t, t ∈ R ↔ t ∈ R') (hS : ∀ z, S z ↔ S' z) (q : Int) : Beh R k S q ↔ Beh R' k S' q :=
  ReachP.same hR (fun z => exists_congr fun p => and_congr (hS p) (hR _)) q
theorem Goes.same {R R' : List (Int × Str × Int)} (hR : ∀ t, t ∈ R ↔ t ∈ R') : ∀ {row : List Str} {S S' : Int → Prop}, (∀ z, S z ↔ S' z) → ∀ q, Goes R S row q ↔ Goes R' S' row q
  | [], _, _, hS, q => hS q
  | k :: row, S, S', hS, q => Goes.same hR (row := row) (S := Beh R k S) (S' := Beh R' k S') (fun z => Beh.same hR hS z) q
theorem ReachP.or {R : List (Int × Str × Int)} {S T : Int → Prop} (q : Int) : ReachP R (fun z => S z ∨ T z) q ↔ ReachP R S q ∨ ReachP R T q := by
  constructor
  · intro h
    induction h with
    | base h => exact h.imp .base .base
    | step _ e ih => exact ih.imp (.step · e) (.step · e)
  · exact fun h => h.elim (.mono (fun _ h => h) fun _ => .inl) (.mono (fun _ h => h) fun _ => .inr)
theorem Beh.or {R : List (Int × Str × Int)} {k : Str} {S T : Int → Prop} (q : Int) : Beh R k (fun z => S z ∨ T z) q ↔ Beh R k S q ∨ Beh R k T q := by
  unfold Beh
  rw [← ReachP.or]
  refine ReachP.congr (fun z => ?_) q
  constructor
  · rintro ⟨p, hp, e⟩
    exact hp.imp (fun h => ⟨p, h, e⟩) fun h => ⟨p, h, e⟩
  · rintro (⟨p, hp, e⟩ | ⟨p, hp, e⟩)
    · exact ⟨p, .inl hp, e⟩
    · exact ⟨p, .inr hp, e⟩
/-- all of R lies within P -/
def Within (R : List (Int × Str × Int)) (P : Int → Prop) : Prop := ∀ p k q, (p, k, q) ∈ R → P p ∧ P q
theorem ReachP.within {R : List (Int × Str × Int)} {S P : Int → Prop} (w : Within R P) (hS : ∀ z, S z → P z) {q : Int} (h : ReachP R S q) : P q := by
  cases h with
  | base h => exact hS _ h
  | step _ e => exact (w _ _ _ e).2
theorem Beh.within {R : List (Int × Str × Int)} {k : Str} {S P : Int → Prop} (w : Within R P) {q : Int} (h : Beh R k S q) : P q :=
  ReachP.within w (fun z ⟨p, _, e⟩ => (w _ _ _ e).2) h
theorem Goes.within {R : List (Int × Str × Int)} {P : Int → Prop} (w : Within R P) : ∀ {row : List Str} {S : Int → Prop}, (∀ z, S z → P z) → ∀ {q}, Goes R S row q → P q
  | [], _, hS, _, h => hS _ h
  | k :: row, S, hS, _, h => Goes.within w (row := row) (S := Beh R k S) (fun z h => Beh.within w h) h
/-- places and marks renamed -/
structure Ren (R R' : List (Int × Str × Int)) (P : Int → Prop) (M : Str → Prop) (φ : Int → Int) (ν : Str → Str) : Prop where
  w : Within R P
  mks : ∀ p k q, (p, k, q) ∈ R → M k
  inj : ∀ x y, P x → P y → φ x = φ y → x = y
  njn : ∀ x y, M x → M y → ν x = ν y → x = y
  e0 : ν "" = ""
  m0 : M ""
  im : ∀ t, t ∈ R' ↔ ∃ p k q, (p, k, q) ∈ R ∧ t = (φ p, ν k, φ q)
section
variable {R R' : List (Int × Str × Int)} {P : Int → Prop} {M : Str → Prop} {φ : Int → Int} {ν : Str → Str}
theorem Ren.reach (r : Ren R R' P M φ ν) {S S' : Int → Prop} (hS : ∀ z, S z → P z) (hS' : ∀ z, S' z ↔ ∃ x, S x ∧ z = φ x) (q' : Int) : ReachP R' S' q' ↔ ∃ q, ReachP R S q ∧ q' = φ q := by
  constructor
  · intro h
    induction h with
    | base h =>
      obtain ⟨x, h1, h2⟩ := (hS' _).mp h
      exact ⟨x, .base h1, h2⟩
    | step _ e ih =>
      obtain ⟨p, h1, h2⟩ := ih
      obtain ⟨a, k, b, h3, h4⟩ := (r.im _).mp e
      injection h4 with e1 e2
      injection e2 with e2 e3
      have pa : p = a := r.inj _ _ (ReachP.within r.w hS h1) (r.w _ _ _ h3).1 (h2.symm.trans e1)
      have ke : k = "" := r.njn _ _ (r.mks _ _ _ h3) r.m0 (by rw [r.e0]; exact e2.symm)
      subst pa
      subst ke
      exact ⟨b, .step h1 h3, e3⟩
  · rintro ⟨q, h, rfl⟩
    induction h with
    | base h => exact .base ((hS' _).mpr ⟨_, h, rfl⟩)
    | step _ e ih => exact .step ih ((r.im _).mpr ⟨_, _, _, e, by rw [r.e0]⟩)
theorem Ren.beh (r : Ren R R' P M φ ν) {k : Str} (hk : M k) {S S' : Int → Prop} (hS : ∀ z, S z → P z) (hS' : ∀ z, S' z ↔ ∃ x, S x ∧ z = φ x) (q' : Int) : Beh R' (ν k) S' q' ↔ ∃ q, Beh R k S q ∧ q' = φ q := by
  refine r.reach (fun z ⟨p, _, e⟩ => (r.w _ _ _ e).2) (fun z => ?_) q'
  constructor
  · rintro ⟨p, hp, e⟩
    obtain ⟨x, h1, rfl⟩ := (hS' _).mp hp
    obtain ⟨a, k', b, h3, h4⟩ := (r.im _).mp e
    injection h4 with e1 e2
    injection e2 with e2 e3
    have pa : x = a := r.inj _ _ (hS _ h1) (r.w _ _ _ h3).1 e1
    have ke : k = k' := r.njn _ _ hk (r.mks _ _ _ h3) e2
    subst pa
    subst ke
    exact ⟨b, ⟨x, h1, h3⟩, e3⟩
  · rintro ⟨x, ⟨p, hp, e⟩, rfl⟩
    exact ⟨φ p, (hS' _).mpr ⟨p, hp, rfl⟩, (r.im _).mpr ⟨_, _, _, e, rfl⟩⟩
theorem Ren.goes (r : Ren R R' P M φ ν) : ∀ {row : List Str} {S S' : Int → Prop}, (∀ k ∈ row, M k) → (∀ z, S z → P z) → (∀ z, S' z ↔ ∃ x, S x ∧ z = φ x) → ∀ q', Goes R' S' (row.map ν) q' ↔ ∃ q, Goes R S row q ∧ q' = φ q
  | [], _, _, _, _, hS', q' => hS' q'
  | k :: row, S, S', hk, hS, hS', q' => Ren.goes r (row := row) (S := Beh R k S) (S' := Beh R' (ν k) S') (fun k h => hk k (List.mem_cons_of_mem _ h)) (fun z h => Beh.within r.w h) (fun z => r.beh (hk k List.mem_cons_self) hS hS' z) q'
end
/-- the triples depend on what is told alone -/
theorem trip_same {m m' : Str → List Str} {A A' : List Arr} (hA : ∀ a, a ∈ A ↔ a ∈ A') (hm : ∀ a ∈ A, ∀ z, z ∈ m a.2.1 ↔ z ∈ m' a.2.1) (t : Int × Str × Int) : t ∈ trip m A ↔ t ∈ trip m' A' := by
  obtain ⟨p, k, q⟩ := t
  rw [mem_trip, mem_trip]
  exact ⟨fun ⟨z, h1, h2⟩ => ⟨z, (hA _).mp h1, (hm _ h1 _).mp h2⟩, fun ⟨z, h1, h2⟩ => ⟨z, (hA _).mpr h1, (hm _ ((hA _).mpr h1) _).mpr h2⟩⟩
theorem trip_within {m : Str → List Str} {A : List Arr} {P : Int → Prop} (h : ∀ a ∈ A, P a.1 ∧ P a.2.2) : Within (trip m A) P := fun p k q e => by
  obtain ⟨z, h1, _⟩ := mem_trip.mp e
  exact h _ h1
/-- the triples of a world renamed -/
theorem trip_ren {m m' : Str → List Str} {A : List Arr} {φ : Int → Int} {σ ν : Str → Str} (hm : ∀ a ∈ A, m' (σ a.2.1) = (m a.2.1).map ν) (t : Int × Str × Int) :
    t ∈ trip m' (A.map fun a => (φ a.1, σ a.2.1, φ a.2.2)) ↔ ∃ p k q, (p, k, q) ∈ trip m A ∧ t = (φ p, ν k, φ q) := by
  obtain ⟨p', k', q'⟩ := t
  rw [mem_trip]
  constructor
  · rintro ⟨z, h1, h2⟩
    obtain ⟨a, ha, e⟩ := List.mem_map.mp h1
    injection e with e1 e2
    injection e2 with e2 e3
    rw [← e2, hm a ha] at h2
    obtain ⟨k, hk, rfl⟩ := List.mem_map.mp h2
    exact ⟨a.1, k, a.2.2, mem_trip.mpr ⟨_, ha, hk⟩, by rw [e1, e3]⟩
  · rintro ⟨p, k, q, h, e⟩
    obtain ⟨z, h1, h2⟩ := mem_trip.mp h
    injection e with e1 e2
    injection e2 with e2 e3
    refine ⟨σ z, List.mem_map.mpr ⟨_, h1, by rw [e1, e3]⟩, ?_⟩
    rw [hm _ h1, e2]
    exact List.mem_map.mpr ⟨k, h2, rfl⟩
/-- two ascending lists of the same are one -/
theorem asc_same {l m : List Int} (h1 : l.Pairwise (· < ·)) (h2 : m.Pairwise (· < ·)) (h : ∀ k, k ∈ l ↔ k ∈ m) : l = m := by
  have n1 : l.Nodup := h1.imp fun h e => Int.ne_of_lt h e
  have n2 : m.Nodup := h2.imp fun h e => Int.ne_of_lt h e
  exact ((List.perm_ext_iff_of_nodup n1 n2).mpr h).eq_of_pairwise (fun a b _ _ h1 h2 => absurd h1 (by omega)) h1 h2
end TW
set_option Elab.async false
set_option linter.all false
set_option maxRecDepth 100000
set_option maxHeartbeats 4000000
/-! dict(list of pairs whose keys are tuples) -/
namespace TW
open PySem PySem.Spec PyProof.Rows L2 RZ StX
open Evl (Ex)
def mergeT (kvs more : List (List Key × V)) : List (List Key × V) := more.foldl (fun acc kv => putK acc kv.1 kv.2) kvs
theorem mergeT_snoc (kvs more : List (List Key × V)) (p : List Key × V) : mergeT kvs (more ++ [p]) = putK (mergeT kvs more) p.1 p.2 := by
  unfold mergeT
  rw [List.foldl_append]
  rfl
theorem length_mergeT : ∀ (more kvs : List (List Key × V)), (mergeT kvs more).length ≤ kvs.length + more.length
  | [], kvs => by show kvs.length ≤ kvs.length + 0; omega
  | p :: r, kvs => by
    have h1 := length_mergeT r (putK kvs p.1 p.2)
    have h2 := length_putK kvs p.1 p.2
    show (mergeT (putK kvs p.1 p.2) r).length ≤ kvs.length + (r.length + 1)
    omega
structure rDictPT (K : PySem.W.Frag) (xs : List V) (H : Hp) (Q : VK) : Prop where
  r : ∃ (a : Addr) (rows : List (Addr × Addr × List Key × V)), xs = [.ref a] ∧ SqL K H a (rows.map fun r => .ref r.1) ∧ (∀ r ∈ rows, SqT K H r.1 [.ref r.2.1, r.2.2.2] ∧ H r.2.1 = some (.tup (r.2.2.1.map kV))) ∧
    ∀ p, H p = none → Q (.ref p) (upd H p (.dT (mergeT [] (rows.map fun r => (r.2.2.1, r.2.2.2)))))
section
variable {X : Cx}
theorem kt_merge {H : Hp} : ∀ {rows : List (Addr × Addr × List Key × V)} {ps : List (List Key × Addr × Value)} {kvs : List (List Key × V)} {xs : List (List Key × Addr × Value)}, Paired (fun r p => r.2.2.1 = p.1 ∧ r.2.1 = p.2.1 ∧ RelV r.2.2.2 p.2.2 ∧ H r.2.1 = some (.tup (r.2.2.1.map kV))) rows ps → KT H kvs xs →
    KT H (mergeT kvs (rows.map fun r => (r.2.2.1, r.2.2.2))) (storedAllH xs ps)
  | _, _, _, _, .nil, r => r
  | _, _, kvs, xs, .cons (a := r) (b := p) h t, rr => by
    obtain ⟨e1, e2, e3, e4⟩ := h
    have z := KT.put rr r.2.2.1 e4 e3
    have z2 := kt_merge t z
    rw [e2] at z2
    show KT H (mergeT (putK kvs r.2.2.1 r.2.2.2) _) (storedAllH (storedH xs p.1 p.2.1 p.2.2) _)
    rw [← e1]
    exact z2
theorem rows_of {pins : List (Addr × Obj)} {σ : L2.St} {H : Hp} {s : Shared} (I : Inv X pins σ H s) : ∀ {rows : List (Addr × Addr × List Key × V)}, (∀ r ∈ rows, SqT X.K H r.1 [.ref r.2.1, r.2.2.2] ∧ H r.2.1 = some (.tup (r.2.2.1.map kV))) →
    ∃ ps : List (List Key × Addr × Value), Paired (fun r p => r.2.2.1 = p.1 ∧ r.2.1 = p.2.1 ∧ RelV r.2.2.2 p.2.2 ∧ H r.2.1 = some (.tup (r.2.2.1.map kV))) rows ps ∧ ∀ (j : Nat) (q : List Key × Addr × Value), ps[j]? = some q → ∃ r, rows[j]? = some r ∧ IsTup s.heap r.1 #[.ref q.2.1, q.2.2]
  | [], _ => ⟨[], .nil, fun j q e => by simp at e⟩
  | r :: rows, h => by
    obtain ⟨ps, p1, p2⟩ := rows_of I (rows := rows) fun r' hr' => h r' (List.mem_cons_of_mem _ hr')
    obtain ⟨h1, h2⟩ := h r List.mem_cons_self
    obtain ⟨its, rv, ht, _⟩ := I.tuple h1
    obtain ⟨u, y, ei, ru, ry⟩ := vals2 rv
    subst ei
    obtain rfl : u = Value.ref r.2.1 := ru
    refine ⟨(r.2.2.1, r.2.1, y) :: ps, .cons ⟨rfl, rfl, ry, h2⟩ p1, fun j q e => ?_⟩
    cases j with
    | zero =>
      cases Option.some.inj e
      exact ⟨r, rfl, ht⟩
    | succ j =>
      obtain ⟨r', e1, e2⟩ := p2 j q (by simpa using e)
      exact ⟨r', by simpa using e1, e2⟩
theorem refs_at1 {α : Type} {g : α → Addr} : ∀ {ps : List α} {us : List Value}, Vals (ps.map fun r => V.ref (g r)) us → us = ps.map fun r => Value.ref (g r)
  | [], us, r => by
    rw [List.map_nil] at r
    cases r
    rfl
  | p :: ps, us, r => by
    rw [List.map_cons] at r
    cases r with
    | cons h t =>
      cases h
      rw [List.map_cons, ← refs_at1 t]
theorem cr_dictPT (K : PySem.W.Frag) (hcalm : X.calm = true) (hu : X.A.units + 8 < cLine) (hK : X.K = K := by rfl) : CallR X (.type "dict") (rDictPT K) := by
  subst hK
  intro pins s σ H xs us Q I r q
  obtain ⟨a, rows, ex, hq, hp, qq⟩ := q.r
  subst ex
  obtain ⟨u, eu, rx⟩ := vals1 r
  subst eu
  cases rx
  obtain ⟨its, rv, pl, hz⟩ := I.list hq
  have ei := refs_at1 (g := fun r : Addr × Addr × List Key × V => r.1) rv
  subst ei
  rw [List.length_map] at hz
  obtain ⟨ps, rel, hpr⟩ := rows_of I hp
  have hl := rel.length
  obtain ⟨o, n, ho, hc, hd, hdat⟩ := pl
  have PA := PairArg.list (prog := X.prog) (w := X.w) a (rows.map fun r => Value.ref r.1).toArray (fun j => ((rows[j]?).map (·.1)).getD 0) (ps.map fun p => (Value.ref p.2.1, p.2.2))
  refine PySem.call_dict_pairsH (knd := tupleKind (mixKind X.prog X.w)) (ps := ps) PA (I.ok.hd hcalm) (tupleKind_room_in1 ?_) ⟨⟨o, n, ho, hc, hd, hdat⟩, ?_, fun j k v hj => ?_⟩ ⟨by simp, fun i key v h => ?_⟩ ?_ ?_ fun h' tk hd' k => ?_
  · show X.A.units + 1 + 1 < cLine
    omega
  · simp [hl]
  · rw [List.getElem?_map] at hj
    obtain ⟨p, hp1, hp2⟩ := Option.map_eq_some_iff.mp hj
    cases hp2
    obtain ⟨r, e1, e2⟩ := hpr j p hp1
    refine ⟨by simp [e1], .inl ?_⟩
    show s.heap.IsTuple (((rows[j]?).map (·.1)).getD 0) _
    rw [e1]
    exact e2
  · have h : (ps.map fun p => (Value.ref p.2.1, p.2.2))[i]? = some (key, v) := h
    rw [List.getElem?_map] at h
    obtain ⟨p, hp1, hp2⟩ := Option.map_eq_some_iff.mp h
    cases hp2
    exact ⟨p.1, p.2.1, hp1, rfl⟩
  · intro h' hk x hx
    obtain ⟨r, hr⟩ := PySem.Paired.right rel x hx
    obtain ⟨e1, e2, e3, e4⟩ := hr
    have z := key_of (P := X.prog) (w := X.w) I.hok e4
    rw [e1, e2] at z
    obtain ⟨o', its', n', h1, h2, h3, h4⟩ := z
    exact ⟨o', its', n', hk _ _ (Nat.ne_of_lt (Heap.lt_size h1)) (by simp) h1, h2, h3, h4⟩
  · simpa [← hl] using hz
  · have hm : (s.heap.objs.size == sysModules) = false := beq_eq_false_iff_ne.mpr (Nat.ne_of_gt I.big)
    have hlen : (mergeT [] (rows.map fun r => (r.2.2.1, r.2.2.2))).length ≤ sizeLine := by
      refine Nat.le_trans (length_mergeT _ _) ?_
      simpa using hz
    obtain ⟨ob, es, ep, g1, g2, g3, g4, _, g5⟩ := hd'
    have hkt : KT (upd H s.heap.objs.size (.dT (mergeT [] (rows.map fun r => (r.2.2.1, r.2.2.2))))) (mergeT [] (rows.map fun r => (r.2.2.1, r.2.2.2))) (storedAllH [] ps) := (kt_merge rel .nil).keeps fun b ys hb => by
      rw [upd_ne (ne_of_none hb (I.hok.fresh (Nat.le_refl _)))]
      exact hb
    exact ⟨.ref s.heap.objs.size, upd H s.heap.objs.size (.dT (mergeT [] (rows.map fun r => (r.2.2.1, r.2.2.2)))), I.laid (t' := tk) (fun b o e => k b o (by simp) e) (Nat.le_refl _) (show ObjOk X.prog X.w _ _ _ (.dT _) from ⟨hlen, hm, storedAllH [] ps, hkt, ob, es, ep, g1, g2, g3, g4, g5⟩), rfl, qq _ (I.hok.fresh (Nat.le_refl _))⟩
end
end TW
set_option Elab.async false
set_option linter.all false
set_option maxRecDepth 100000
set_option maxHeartbeats 4000000
/-! for k, v in d.items(), the keys of d being tuples -/
namespace TW
open PySem PySem.Spec PyProof.Rows L2
open Evl (Ex)
section
variable {X : Cx} {pins : List (Addr × Obj)} {σ : L2.St} {H : Hp} {s : Shared} {d : Addr} {od : Obj} {kvs : List (List Key × V)}
/-- a locked dict of tuple keys: its entries, with their values -/
theorem lockedT (I : Inv X pins σ H s) (h : H d = some (.frz od (.dT kvs))) :
    (d == sysModules) = false ∧ s.heap.get? d = some od ∧ od.ExactDict ∧ ∃ (es : Array DictEntry) (ep : Nat), od.data = .dict es ep ∧ es.size = kvs.length ∧
      ∀ (i : Nat) (k : List Key) (v : V), kvs[i]? = some (k, v) → ∃ (en : DictEntry) (q : Addr), es[i]? = some en ∧ en.key = .ref q ∧ H q = some (.tup (k.map kV)) ∧ RelV v en.val := by
  obtain ⟨d_at, _, no_sys, rows, par, o2, es, ep, o2_at, exact_, is_dict, listed, _⟩ := I.hok d _ h
  obtain rfl : od = o2 := Option.some.inj (d_at.symm.trans o2_at)
  refine ⟨no_sys, d_at, exact_, es, ep, is_dict, (size_of_entries listed).trans (Paired.length par).symm, fun i k v at_i => ?_⟩
  obtain ⟨row, row_at, _, key_at, val_at⟩ := paired_get par at_i
  exact ⟨_, row.2.1, by simpa [row_at] using entry_at listed i, rfl, key_at, val_at⟩
end
/-- the pairs (key's own tuple, value), each a new tuple -/
def Itit (d : Addr) (od : Obj) (kvs : List (List Key × V)) : It :=
  ⟨fun i H => H d = some (.frz od (.dT kvs)) ∧ i < kvs.length,
   fun i H x H' => ∃ (T q : Addr) (ks : List Key) (v : V), kvs[i]? = some (ks, v) ∧ x = .ref T ∧ H q = some (.tup (ks.map kV)) ∧ H T = none ∧ H' = upd H T (.tup [.ref q, v]),
   fun i H => H d = some (.frz od (.dT kvs)) ∧ kvs.length ≤ i⟩
section
variable {P : Program} {w : World} {K : PySem.W.Frag} {d : Addr} {od : Obj} {es : Array DictEntry} {ep : Nat} {kvs : List (List Key × V)}
theorem turnT {elts : List Expr} {kk : Nat} {tpos : Pos} (it : Addr) (is_dict : od.data = .dict es ep) :
    Turn P w K (.Tuple elts kk tpos) (Itit d od kvs) [it] it (fun i h => ∃ ok ov, IsItemIter h it d i kvs.length ep ok ov) where
  mem := List.mem_singleton.mpr rfl
  obj := fun i h ⟨ok, ov, at_it⟩ b hb => by
    cases List.mem_singleton.mp hb
    exact ⟨_, at_it, fun v z => nomatch z⟩
  keep := fun i h h' ⟨ok, ov, at_it⟩ stays => ⟨ok, ov, stays it (List.mem_singleton.mpr rfl) _ at_it⟩
  item := by
    intro X eP eW eK calm i pins s σ H E inv free ⟨ok, ov, at_it⟩ ⟨d_locked, lt⟩
    subst eP eW eK
    obtain ⟨no_sys, d_at, exact_, es2, ep2, is_dict2, many, entries⟩ := lockedT inv d_locked
    obtain ⟨rfl, rfl⟩ := dict_ep is_dict is_dict2
    have has : kvs[i]? = some (kvs[i].1, kvs[i].2) := List.getElem?_eq_getElem lt
    obtain ⟨en, q, en_at, en_key, q_at, val_rel⟩ := entries i _ _ has
    have lt' : i < es2.size := many.symm ▸ lt
    have en_is : es2[i] = en := by
      rw [Array.getElem?_eq_getElem lt'] at en_at
      exact Option.some.inj en_at
    rw [← many] at at_it
    have it_lt : it < s.heap.objs.size := Heap.lt_size at_it
    refine DT.nextI at_it ⟨od, d_at, exact_, is_dict2⟩ lt' fun h1 out pair_at size1 stays1 => ?_
    rw [en_is, en_key] at out pair_at
    refine ⟨_, rfl, wpAny_letOwnedTupleGo_items (s := { s with heap := h1 }) out fun h2 at_it2 same2 => ?_⟩
    have pair2 : h2.get? s.heap.objs.size = some { cls := .type "tuple", data := .seq #[.ref q, en.val] } := (same2.2 _ (Nat.ne_of_gt it_lt)).trans pair_at
    have fine : ObjOk X.prog X.w (upd H s.heap.objs.size (.tup [.ref q, kvs[i].2])) h2 s.heap.objs.size (.tup [.ref q, kvs[i].2]) :=
      ⟨by show 2 ≤ sizeLine; decide, [.ref q, en.val], .cons rfl (.cons val_rel .nil), ⟨_, pair2, rfl, _, rfl⟩⟩
    have inv2 := inv.turnedNew (t' := s.toks) (ch := [it]) (fun b ob hb e => (same2.2 b fun z => hb (List.mem_singleton.mpr z)).trans (stays1 b ob (fun z => hb (List.mem_singleton.mpr z)) e)) free (Nat.le_refl _) fine
    refine ⟨.ref s.heap.objs.size, _, inv2, rfl, ⟨_, q, _, _, has, rfl, q_at, inv.hok.fresh (Nat.le_refl _), rfl⟩, ⟨.ref q, en.val, many ▸ at_it2⟩, fun b hb => ?_⟩
    cases List.mem_singleton.mp hb
    rw [upd_ne (Nat.ne_of_lt it_lt)]
    exact (free it (List.mem_singleton.mpr rfl)).1
  done := by
    intro X eP eW eK calm i pins s σ H E inv free ⟨ok, ov, at_it⟩ ⟨d_locked, ge⟩
    subst eP eW eK
    obtain ⟨f0, f1, f2, f3, f4, f5⟩ := free it (List.mem_singleton.mpr rfl)
    obtain ⟨no_sys, d_at, exact_, es2, ep2, is_dict2, many, entries⟩ := lockedT inv d_locked
    obtain ⟨rfl, rfl⟩ := dict_ep is_dict is_dict2
    rw [← many] at at_it
    exact DT.endI (inv.ok.hd calm) at_it ⟨od, d_at, exact_, is_dict2⟩ (many.symm ▸ ge) fun h1 but => ⟨rfl, inv.turned (t' := s.toks) (fun b ob hb e => but b ob hb e) f0 f1 f3 f4 f5⟩
  self := fun A i s Q E ⟨ok, ov, at_it⟩ q => PySem.W.kcp_self at_it q
end
/-- for k, v in d.items(): d is locked -/
def iItemsT (td : TE) : TI := fun σ H R => td σ H fun x H1 => ∃ d od kvs, x = .ref d ∧ H1 d = some (.frz od (.dT kvs)) ∧ R (Itit d od kvs) H1
section
variable {X : Cx} {e : Expr} {td : TE} {apos cpos : Pos}
theorem pi_itemsT {elts : List Expr} {kk : Nat} {tpos : Pos} (he : PE X e td) (hbase : attributeBase e "items" X.env (eval e X.env) = eval e X.env := by rfl) (hline : (apos.endLine == cpos.line) = true := by rfl) :
    PI X (.Tuple elts kk tpos) (.Call (.Attribute e "items" apos) [] [] cpos) (iItemsT td) := ⟨fun pins s σ H R inv q => by
  refine wpAny_Call_method (T := "dict") (id := "dict.items") hbase rfl hline F.plainAttrs_dict F.slot_dict_items F.type_dict_items (thn (he.run pins s σ H _ inv q) fun u s1 ⟨x, H1, inv1, rel, d, od, kvs, x_is, d_locked, q1⟩ => ?_)
  subst x_is
  obtain rfl : u = Value.ref d := rel
  obtain ⟨no_sys, d_at, exact_, es, ep, is_dict, many, entries⟩ := lockedT inv1 d_locked
  have raw : DT.Raw s1.heap d es ep := ⟨od, d_at, exact_, is_dict⟩
  refine ⟨raw.typeIs, (fun c z => by cases z; exact ⟨od, d_at, exact_.2.1⟩), ?_⟩
  have inv2 : Inv X pins σ H1 { s1 with heap := s1.heap.push { cls := .type "dict_items", data := .fields #[.ref d] } } := inv1.kept (t' := s1.toks) fun b ob z => Heap.get?_push_of_some _ z
  have go : wpAny (model X.prog X.w) X.A (pyIter (.ref s1.heap.objs.size)) (PIE X pins σ (.Tuple elts kk tpos) fun J H' => R J H') X.xe { s1 with heap := s1.heap.push { cls := .type "dict_items", data := .fields #[.ref d] } } := by
    refine DT.iterI (d := d) (es := es) (ep := ep) ⟨_, Heap.get?_push_size _ rfl, rfl, rfl⟩ (raw.push _) (pi_one (tk := s1.toks) inv2 _ (turnT _ is_dict) ⟨.none, .none, ?_⟩ q1)
    rw [← many]
    exact Heap.get?_push_size _ rfl
  show wpAny _ _ (callWith cpos (.builtin "dict.items") [.ref d] [] []) _ X.xe s1
  exact method_meetsIn F.slot_dict_items F.entry_dict_items rfl (PySem.evalArgs_none ⟨rfl, raw.typeIs, F.args_dict_items_1 _, _, DT.meetsItems (es := es) (ep := ep) no_sys, ⟨raw, go⟩⟩)⟩
end
theorem walk_itemsT {d : Addr} {od : Obj} {kvs : List (List Key × V)} : Walk (Itit d od kvs) kvs.length (fun H => H d = some (.frz od (.dT kvs)))
    (fun i H x H' => ∃ (T q : Addr) (ks : List Key) (v : V), kvs[i]? = some (ks, v) ∧ x = .ref T ∧ H q = some (.tup (ks.map kV)) ∧ H T = none ∧ H' = upd H T (.tup [.ref q, v])) :=
  ⟨fun _ _ lt at_ => ⟨at_, lt⟩, fun _ at_ => ⟨at_, Nat.le_refl _⟩, fun _ _ _ _ _ _ y => y⟩
end TW
set_option Elab.async false
set_option linter.all false
set_option maxRecDepth 100000
set_option maxHeartbeats 4000000
/-! dicts with tuple keys: {k: v}, d.update(e), {k: v for ..}, d != {} -/
namespace TW
open PySem PySem.Spec PyProof.Rows L2
section
variable {X : Cx} {pins : List (Addr × Obj)} {σ : L2.St} {H : Hp} {s : Shared}
/-- d[k] = v in a display or a comprehension -/
theorem d_dictSetT {D b : Addr} {kvs : List (List Key × V)} {k : List Key} {v : V} {u r : Value} {E : Value → Shared → Prop} {Q : Unit → Shared → Prop} (room : X.A.units < cLine) (I : Inv X pins σ H s) (at_D : H D = some (.dT kvs)) (few : kvs.length < sizeLine)
    (at_b : H b = some (.tup (k.map kV))) (rb : RelV (.ref b) u) (rv : RelV v r) (h : ∀ s', Inv X pins σ (upd H D (.dT (putK kvs k v))) s' → Q () s') : wpAny (model X.prog X.w) X.A (dictSet D u r) Q E s := by
  obtain rfl : u = Value.ref b := rb
  obtain ⟨_, no_sys, xs, rel, dict_⟩ := dt_of I.hok at_D
  have more := length_putK kvs k v
  refine wpAny_dictSet_heap (hsz := by rw [← Paired.length rel]; omega) room (key_of I.hok at_b) dict_ fun h' now same => h _ ?_
  obtain ⟨o, es, ep, o_at, is_d, data, listed, _, nd⟩ := now
  refine d_write I (by rw [at_D]; exact True.intro) same ⟨o, o_at⟩ ⟨by omega, no_sys, _, (rel.put k at_b rv).keeps fun c ys z => ?_, o, es, ep, o_at, is_d, data, listed, nd⟩
  rw [upd_ne (ne_of z at_D fun q => nomatch q)]
  exact z
end
/-! ### {k: v} -/
def tDisp1T (tk tv : TE) : TE := fun σ H Q => ∀ p, H p = none → tk σ (upd H p (.dT [])) fun x H1 => tv σ H1 fun y H2 => ∃ (b : Addr) (k : List Key), x = .ref b ∧ H2 b = some (.tup (k.map kV)) ∧ H2 p = some (.dT []) ∧ Q (.ref p) (upd H2 p (.dT [(k, y)]))
theorem pe_disp1T {X : Cx} {pos : Pos} {k v : Expr} {tk tv : TE} (room : X.A.units < cLine) (hk : PE X k tk) (hv : PE X v tv) : PE X (.Dict [some k] [v] pos) (tDisp1T tk tv) := by
  refine ⟨fun pins s σ H Q I h => ?_⟩
  have free := I.hok.fresh (Nat.le_refl s.heap.objs.size)
  have I1 := I.laid (a := s.heap.objs.size) (o := .dT []) (h' := s.heap.push { cls := .type "dict", data := .dict #[] }) (t' := s.toks) (fun _ _ z => Heap.get?_push_of_some _ z) (Nat.le_refl _) (dt_empty s.heap I.big)
  rw [arm_eval_Dict, zip_pairTrees [some k] [v] X.env pos rfl rfl, dictDisplay_pairs (pairTrees [some k] [v] X.env pos) (by simp [pairTrees]) (by simp [pairTrees])]
  refine wpAny_bind (wpAny_standAt (wpAny_bind ?_))
  refine wpAny_subDictH (knd := tupleKind (mixKind X.prog X.w)) (Q := fun d s' => wpAny (model X.prog X.w) X.A (pure (Value.ref d)) (EP X pins σ Q) X.xe s') room (by simp [pairTrees]) ?_
  refine pairTrees_cons_walk (thn (hk.run pins _ σ _ _ I1 (h _ free)) fun u s1 ⟨x, H1, J1, rx, q1⟩ => thn (hv.run pins s1 σ H1 _ J1 q1) fun u2 s2 ⟨y, H2, J2, ry, q2⟩ => pairTrees_nil_walk ?_)
  obtain ⟨b, ks, x_is, at_b, at_p, q3⟩ := q2
  subst x_is
  obtain rfl : u = Value.ref b := rx
  obtain ⟨_, no_sys, xs, rel, dict_⟩ := dt_of J2.hok at_p
  cases rel
  refine ⟨[(ks, b, u2)], ⟨rfl, rfl, key_of J2.hok at_b, trivial⟩, dict_, fun h' tk now same => wpAny_pure ⟨.ref s.heap.objs.size, upd H2 s.heap.objs.size (.dT [(ks, y)]), ?_, rfl, q3⟩⟩
  obtain ⟨o, es, ep, o_at, is_d, data, listed, _, nd⟩ := now
  refine d_write J2 (by rw [at_p]; exact True.intro) same ⟨o, o_at⟩ ⟨by show 1 ≤ sizeLine; decide, no_sys, _, .cons ⟨rfl, ?_, ry⟩ .nil, o, es, ep, o_at, is_d, data, listed, nd⟩
  rw [upd_ne (ne_of at_b at_p fun z => nomatch z)]
  exact at_b
/-! ### d.update(e) -/
theorem kt_more {H : Hp} : ∀ {more : List (List Key × V)} {ys : List (List Key × Addr × Value)} {kvs : List (List Key × V)} {xs : List (List Key × Addr × Value)}, KT H more ys → KT H kvs xs → KT H (mergeT kvs more) (storedAllH xs ys) := by
  intro more ys kvs xs rel
  induction rel generalizing kvs xs with
  | nil => exact fun z => z
  | @cons p q ps qs here _ ih =>
    intro z
    obtain ⟨e1, e2, e3⟩ := here
    have step : KT H (putK kvs p.1 p.2) (storedH xs q.1 q.2.1 q.2.2) := by
      have z2 := z.put p.1 e2 e3
      rw [e1] at z2 ⊢
      exact z2
    exact ih step
def tDUpd (td te : TE) : TE := fun σ H Q => td σ H fun x H1 => ∃ a, x = .ref a ∧ (∃ kvs, H1 a = some (.dT kvs)) ∧ te σ H1 fun y H2 => ∃ (b : Addr) (kvs more : List (List Key × V)), y = .ref b ∧ b ≠ a ∧ H2 a = some (.dT kvs) ∧ kvs ≠ [] ∧ H2 b = some (.dT more) ∧ kvs.length + more.length ≤ sizeLine ∧ Q .non (upd H2 a (.dT (mergeT kvs more)))
theorem pe_dupd {X : Cx} {o e : Expr} {apos cpos : Pos} {td te : TE} (room : X.A.units + 1 < cLine) (ho : PE X o td) (he : PE X e te) (m : M1 X o "update" apos e cpos) : PE X (.Call (.Attribute o "update" apos) [e] [] cpos) (tDUpd td te) := by
  refine ⟨fun pins s σ H Q I h => ?_⟩
  refine wpAny_Call_method m.base m.few m.line PySem.F.plainAttrs_dict PySem.F.slot_dict_update PySem.F.type_dict_update (thn (ho.run pins s σ H _ I h) fun u s1 ⟨x, H1, I1, rx, a, x_is, ⟨kvs0, at0⟩, q1⟩ => ?_)
  subst x_is
  obtain rfl : u = Value.ref a := rx
  obtain ⟨t1, t2, _⟩ := isD_at I1 (.inr ⟨kvs0, .inl at0⟩)
  refine ⟨t1, t2, ?_⟩
  rw [m.trees]
  refine Calls.callWith_builtin rfl (Calls.evalArgs_plain (Calls.spliced_cons (thn (he.run pins s1 σ H1 _ I1 q1) fun iv s2 ⟨y, H2, I2, ry, b, kvs, more, y_is, ne, at_a, full, at_b, few, q2⟩ => Calls.spliced_nil ?_)))
  subst y_is
  obtain rfl : iv = Value.ref b := ry
  obtain ⟨_, no_a, xs, rel, da⟩ := dt_of I2.hok at_a
  obtain ⟨_, no_b, ys, rel2, db⟩ := dt_of I2.hok at_b
  have l1 := Paired.length rel
  have l2 := Paired.length rel2
  refine PySem.call_update_dictH (knd := tupleKind (mixKind X.prog X.w)) (tupleKind_room_in1 room) (Ne.symm ne) no_b da db (.inl fun z => full (by rw [z] at l1; exact List.eq_nil_of_length_eq_zero l1)) (by omega) fun h' now _ same => ?_
  obtain ⟨o, es, ep, o_at, is_d, data, listed, _, nd⟩ := now
  refine ⟨.non, upd H2 a (.dT (mergeT kvs more)), d_write (t' := s2.toks) I2 (by rw [at_a]; exact True.intro) same ⟨o, o_at⟩ ⟨Nat.le_trans (length_mergeT more kvs) few, no_a, _, (kt_more rel2 rel).keeps fun c zs z => ?_, o, es, ep, o_at, is_d, data, listed, nd⟩, rfl, q2⟩
  rw [upd_ne (ne_of z at_a fun q => nomatch q)]
  exact z
theorem m1_of {X : Cx} {o e : Expr} {m : Str} {apos cpos : Pos} (base : attributeBase o m X.env (eval o X.env) = eval o X.env := by rfl)
    (few : ((backTo cpos (starEach [e] X.env)).all (fun x => !x.1) && (backToKw cpos (keywordEach [] X.env)).all (fun x => x.1.isSome) && decide (([e] : List Expr).length + ([] : List Keyword).length + (if ([] : List Keyword).isEmpty then 0 else 1) < 30)) = true := by rfl)
    (line : (apos.endLine == cpos.line) = true := by rfl) (trees : backTo cpos (starEach [e] X.env) = [(false, eval e X.env)] := by rfl) : M1 X o m apos e cpos := ⟨base, few, line, trees⟩
/-! ### {k: v for .. in .. if ..} -/
def tDcT (wi : TI) (g : TG) (tt : TT) (tk tv : TE) (vs : List Nat) : TE := fun σ H Q => wi σ H fun J H1 => ∀ D, H1 D = none → ∃ W : Nat → Nat → Hp → Prop, (∃ m, W 0 m (upd H1 D (.dT []))) ∧
  loopR J W (fun H => Q (.ref D) H) fun x H' Nx => turnR g tt vs σ x H' (fun σ2 H3 => tk σ2 H3 fun y H4 => tv σ2 H4 fun z H5 => ∃ (kvs : List (List Key × V)) (k : List Key) (b : Addr), y = .ref b ∧ H5 b = some (.tup (k.map kV)) ∧ H5 D = some (.dT kvs) ∧ kvs.length < sizeLine ∧ Nx (upd H5 D (.dT (putK kvs k z)))) Nx
structure Blk1 (X : Cx) (kx vx t0 : Expr) (f0 : List Expr) (scope : Scope) (g : TG) (tt : TT) (tk tv : TE) : Prop where
  pg : ∀ (s : Shared) (H : Hp) (C : Addr) (cl : List (Str × Addr)) (fp : List Addr), PG (X.blk s H scope (compEnvC scope cl C X.env) fp) t0 g
  pt : ∀ (s : Shared) (H : Hp) (C : Addr) (cl : List (Str × Addr)) (fp : List Addr), PTs (X.blk s H scope (compEnvC scope cl C X.env) fp) f0 tt
  pk : ∀ (s : Shared) (H : Hp) (C : Addr) (cl : List (Str × Addr)) (fp : List Addr), PE (X.blk s H scope (compEnvC scope cl C X.env) fp) kx tk
  pv : ∀ (s : Shared) (H : Hp) (C : Addr) (cl : List (Str × Addr)) (fp : List Addr), PE (X.blk s H scope (compEnvC scope cl C X.env) fp) vx tv
theorem pe_dcT {X : Cx} {kx vx t0 i0 : Expr} {f0 : List Expr} {scope : Scope} {own : List (Str × Nat)} {pos : Pos} {wi : TI} {g : TG} {tt : TT} {tk tv : TE} (hc : X.calm = true) (room : X.A.units < cLine) (hN : X.N.Nodup) (hi : PI X t0 i0 wi) (ok : BlkOk X.N X.env.scope scope own)
    (B : Blk1 X kx vx t0 f0 scope g tt tk tv) (hs : ∀ x, foldedSetIterable i0 X.env x = pure x := by intro _; rfl) :
    PE X (.DictComp kx vx [⟨t0, i0, f0, 0⟩] scope pos) (tDcT wi g tt tk tv (own.map (·.2))) := by
  refine ⟨fun pins s σ H Q I h => ?_⟩
  rw [arm_eval_DictComp]
  have hfree : ∀ y ∈ scope.names, y.2 = .free → ∃ c, X.env.cells.lookup y.1 = some c := fun y hy e => (ok.free y hy e).elim (fun k => I.ok.has _ (.inl k)) fun k => I.ok.has _ (.inr k)
  refine wpAny_comprehension_free (use := none) rfl hs (closure_ok hfree) ok.kind (fun y hy e => by rw [ok.uniq y hy, e]) (thn (hi.run pins s σ H _ I h) fun xv s1 hx => thn hx fun itv s2 h2 => ?_)
  obtain ⟨it, fp, tn, J, H2, rfl, I2, T, st2, f2, q⟩ := h2
  refine wpAny_newObj_type (newEnv_comp ?_)
  generalize hD : s2.heap.objs.size = D
  have free_D : H2 D = none := I2.hok.fresh (Nat.le_of_eq hD)
  obtain ⟨W, ⟨m0, w0⟩, turn⟩ := q D free_D
  generalize hs3 : ({ s2 with heap := s2.heap.push { cls := .type "dict", data := .dict #[] } } : Shared) = s3
  have h3 : s3.heap = s2.heap.push { cls := .type "dict", data := .dict #[] } := by rw [← hs3]
  have I3 : Inv X pins σ (upd H2 D (.dT [])) s3 := by
    rw [← hs3, ← hD]
    exact I2.laid (t' := s2.toks) (fun b o e => Heap.get?_push_of_some _ e) (Nat.le_refl _) (dt_empty s2.heap I2.big)
  have f3 : ∀ b ∈ fp, FpOk X pins (upd H2 D (.dT [])) b ∧ b < s3.heap.objs.size := fun b hb => by
    obtain ⟨o, e, _⟩ := T.obj _ _ st2 b hb
    have lt := Heap.lt_size e
    refine ⟨⟨?_, (f2 b hb).2⟩, by rw [h3, Heap.size_push]; exact Nat.lt_succ_of_lt lt⟩
    rw [upd_ne (hD ▸ Nat.ne_of_lt lt)]
    exact (f2 b hb).1
  have st3 : tn 0 s3.heap := T.keep _ _ _ st2 fun b _ o e => h3 ▸ Heap.get?_push_of_some _ e
  have I4 := block_start I3 ok hN f3
  generalize hcl : cellsFrom (s3.heap.objs.size + 1) scope.names (cloFrom X.env.cells scope.names []) = cl at I4 ⊢
  have pg := B.pg s3 (upd H2 D (.dT [])) s3.heap.objs.size cl fp
  have pt := B.pt s3 (upd H2 D (.dT [])) s3.heap.objs.size cl fp
  have pk := B.pk s3 (upd H2 D (.dT [])) s3.heap.objs.size cl fp
  have pv := B.pv s3 (upd H2 D (.dT [])) s3.heap.objs.size cl fp
  show codeAny _ _ (.compStart (.DictComp kx vx [⟨t0, i0, f0, 0⟩] scope pos) 0 (.ref it) (.ref D) (compEnvC scope cl s3.heap.objs.size X.env)) (compPost (model X.prog X.w) X.A X.xe none _ (.ref D) s3.heap.objs.size) { s3 with heap := pushCells (s3.heap.push { cls := .type "dict", data := .dict #[] }) scope.names }
  have nfp : ∀ b ∈ fp, (upd H2 D (.dT [])) b = none := fun b hb => (f3 b hb).1.1
  generalize hce : compEnvC scope cl s3.heap.objs.size X.env = ce at I4 pg pt pk pv ⊢
  have cL : ce.locals = s3.heap.objs.size := by rw [← hce]; rfl
  generalize hH3 : upd H2 D (.dT []) = H3 at I3 I4 pg pt pk pv w0 nfp f3
  generalize hs4 : ({ s3 with heap := pushCells (s3.heap.push { cls := .type "dict", data := .dict #[] }) scope.names } : Shared) = s4 at I4 ⊢
  have st4 : tn 0 s4.heap := T.keep _ _ _ st3 fun b _ o e => hs4 ▸ pushCells_keeps _ _ _ _ (Heap.get?_push_of_some _ e)
  have stat : ∀ {σ' : L2.St} {H' : Hp} {s' : Shared}, Inv (X.blk s3 H3 scope ce fp) [] σ' H' s' → (∀ b ∈ fp, H' b = none) → ∀ b ∈ fp, FpOk (X.blk s3 H3 scope ce fp) [] H' b := fun {σ' H' s'} I' hn b hb =>
    ⟨hn b hb, (I'.ok.exf b hb).1, I'.ok.exfs b hb, .inl hb, fun x c e => (I'.ok.exf b hb).2 x c e, fun p hp => absurd (show p ∈ ([] : List (Addr × Obj)) ++ [] from hp) (by simp)⟩
  have loop : codeAny (model X.prog X.w) X.A (.compLoop (.DictComp kx vx [⟨t0, i0, f0, 0⟩] scope pos) 0 (.ref it) (.ref D) ce) (compPost (model X.prog X.w) X.A X.xe none (EP X pins σ Q) (.ref D) s3.heap.objs.size) s4 := by
    refine compLoop_anyD (fun n s' => ∃ i H', Inv (X.blk s3 H3 scope ce fp) [] (wipe σ (own.map (·.2))) H' s' ∧ tn i s'.heap ∧ (∀ b ∈ fp, H' b = none) ∧ W i n H') ?_ m0 ⟨0, H3, I4, st4, nfp, w0⟩
    rintro n s5 ⟨i, H5, I5, st5, n5, w5⟩
    rcases turn i n H5 w5 with ⟨stop, qq⟩ | ⟨go, Nx, hNx, step⟩
    · refine thnF (T.done (X.blk s3 H3 scope ce fp) rfl rfl rfl hc i [] s5 _ H5 (fun _ _ => False) I5 (stat I5 n5) st5 stop) fun r s6 ⟨hr, I6⟩ => ?_
      subst hr
      have I7 : Inv X pins σ H5 s6 := I3.call' (ch := fp) I6.os I6.base I6.hok I6.bare fun b hb => by
        obtain ⟨x1, x2, x3, x4, x5, x6⟩ := (f3 b hb).1
        exact ⟨x4, x2, x5, x6⟩
      have nC : H5 s3.heap.objs.size = none := cL ▸ (show H5 ce.locals = none from I6.free)
      obtain ⟨m, hn, _⟩ := I6.loc
      have hn : s6.heap.Ns ce.locals m := hn
      rw [cL] at hn
      obtain ⟨y1, y2, y3, y4, y5, y6⟩ := I3.fpOk (Nat.le_refl _) nC
      exact ⟨m, hn, fun h'' sb => ⟨.ref D, H5, I7.turned (t' := s6.toks) (fun b o hb e => (sb.2 b hb).trans e) y1 y2 y4 y5 y6, rfl, qq⟩⟩
    · refine thnF (T.item (X.blk s3 H3 scope ce fp) rfl rfl rfl hc i [] s5 _ H5 (fun _ _ => False) I5 (stat I5 n5) st5 go) fun r s6 ⟨u, hr, h6⟩ => ?_
      subst hr
      refine thnF h6 fun _ s7 ⟨x, H7, I7, r7, y7, st7, n7⟩ => ?_
      refine thnF (pg.run _ s7 _ H7 x u _ (I7.pinned (stat I7 n7) (T.obj _ _ st7)) r7 (step x H7 y7)) fun _ s8 ⟨σ8, H8, I8, hw8, q8⟩ => ?_
      refine thnF (pt.run _ s8 σ8 H8 _ I8 q8) fun b s9 ⟨H9, I9, q9⟩ => ?_
      have l8 : (wipe σ (own.map (·.2))).length = σ8.length := by rw [← hw8, wipe_length]
      have k8 : ∀ (j : Nat) v, (wipe σ (own.map (·.2)))[j]? = some (some v) → σ8[j]? = some (some v) := fun j v e => (wipe_some (vs := own.map (·.2)) (hw8 ▸ e)).1
      have fin : ∀ {s' : Shared} {H' : Hp}, Inv (X.blk s3 H3 scope ce fp) ([] ++ pinsAt fp s7.heap) σ8 H' s' → Nx H' → ∃ m, m < n ∧ ∃ i H', Inv (X.blk s3 H3 scope ce fp) [] (wipe σ (own.map (·.2))) H' s' ∧ tn i s'.heap ∧ (∀ b ∈ fp, H' b = none) ∧ W i m H' := fun {s' H'} I' nx => by
        obtain ⟨m', hm, w'⟩ := hNx H' nx
        have kept : ∀ b ∈ fp, ∀ o, s7.heap.get? b = some o → s'.heap.get? b = some o ∧ H' b = none := fun b hb o e => by
          have z := I'.pin (b, o) (List.mem_append_right _ (List.mem_append_right _ (mem_pinsAt hb e)))
          exact ⟨z.1, z.2.1⟩
        refine ⟨m', hm, i + 1, H', (I'.unpinned (pins := [])).weak l8 k8, T.keep _ _ _ st7 fun b hb o e => (kept b hb o e).1, fun b hb => ?_, w'⟩
        obtain ⟨o, e, _⟩ := T.obj _ _ st7 b hb
        exact (kept b hb o e).2
      cases b with
      | false =>
        simp only [Bool.false_eq_true, if_false] at q9 ⊢
        exact fin I9 q9
      | true =>
        simp only [if_true] at q9 ⊢
        refine thnF (pk.run _ s9 σ8 H9 _ I9 q9) fun z s10 ⟨yk, H10, I10, r10, q10⟩ => ?_
        refine thnF (pv.run _ s10 σ8 H10 _ I10 q10) fun z2 s11 ⟨yv, H11, I11, r11, kvs, k, b, yk_is, at_b, at_D, few, nx⟩ => ?_
        subst yk_is
        exact d_dictSetT (X := X.blk s3 H3 scope ce fp) room I11 at_D few at_b r10 r11 fun s12 I12 => fin I12 nx
  exact codeAny_compStart_dict loop (T.self X.A 0 _ _ _ st4 loop)
/-! ### d != {} -/
section
variable {prog : Program} {w : World} {A : Around} {E : Value → Shared → Prop} {s : Shared}
theorem same_empty {nm : String} {a b : Addr} {es : Array DictEntry} {ep ep2 : Nat} {Q : Bool → Shared → Prop} (no_a : (a == sysModules) = false) (no_b : (b == sysModules) = false) (da : DT.Raw s.heap a es ep) (db : DT.Raw s.heap b #[] ep2) (h : Q (decide (es.size = 0)) s) :
    wpAny (model prog w) A (Builtin.Dict.samePairs nm a b) Q E s := by
  obtain ⟨oa, at_a, _, is_a⟩ := da
  obtain ⟨ob, at_b, _, is_b⟩ := db
  unfold Builtin.Dict.samePairs Builtin.Dict.showsAll
  rw [if_neg (by rw [no_a]; exact Bool.false_ne_true), if_neg (by rw [no_b]; exact Bool.false_ne_true)]
  refine wpAny_bind (wpAny_pure (wpAny_bind (wpAny_pure (wpAny_bind (wpAny_dictEntries at_a is_a ?_)))))
  dsimp only
  refine wpAny_bind (wpAny_dictEntries at_b is_b ?_)
  by_cases none_ : es.size = 0
  · rw [if_neg (by simp [none_])]
    rw [decide_eq_true none_] at h
    refine wpAny_bind (wpAny_dictEpoch at_a is_a (wpAny_bind ?_))
    rw [Std.Legacy.Range.forIn_eq_forIn_range']
    simp only [Std.Legacy.Range.size, none_, Nat.sub_zero, Nat.add_sub_cancel, Nat.div_one]
    exact wpAny_pure (wpAny_pure h)
  · rw [if_pos (by simp [none_])]
    rw [decide_eq_false none_] at h
    exact wpAny_bind (wpAny_rule (wpAny_pure h))
theorem ne_empty {a b : Addr} {es : Array DictEntry} {ep ep2 : Nat} {Q : Value → Shared → Prop} (no_a : (a == sysModules) = false) (no_b : (b == sysModules) = false) (da : DT.Raw s.heap a es ep) (db : DT.Raw s.heap b #[] ep2) (room : A.units < cLine)
    (h : Q (.bool (!decide (es.size = 0))) s) : wpAny (model prog w) A (compareOp .NotEq (.ref a) (.ref b)) Q E s := by
  refine wpAny_richCompare_same_room (op := .NotEq) da.typeIs db.typeIs PySem.F.slot_dict_ne (wpAny_call_entry PySem.F.slot_dict_ne da.typeIs PySem.F.entry_dict_ne ?_ (PySem.F.args_dict_ne_2 _ _)) room
  show wpAny _ _ (Builtin.Dict.dictSlotArgs "__ne__" ⟨[.ref a, .ref b], []⟩ >>= _) _ _ s
  refine wpAny_bind ?_
  unfold Builtin.Dict.dictSlotArgs
  refine wpAny_bind (wpAny_notOrdered_dict da.typeIs (show wpAny _ _ (pure (Value.ref a, Value.ref b)) _ _ s from wpAny_pure ?_))
  refine wpAny_bind (wpAny_isInstance (T := "dict") db.typeIs PySem.F.sub_dict_dict ?_)
  simp only [Bool.not_true, Bool.false_eq_true, if_false]
  refine wpAny_bind (wpAny_pure (wpAny_bind (wpAny_pure (wpAny_bind (same_empty no_a no_b da db ?_)))))
  exact wpAny_pure ⟨_, rfl, fun z => (nomatch z), by simpa using h⟩
end
theorem raw_dT {X : Cx} {pins : List (Addr × Obj)} {σ : L2.St} {H : Hp} {s : Shared} {a : Addr} {kvs : List (List Key × V)} (I : Inv X pins σ H s) (at_a : H a = some (.dT kvs)) : (a == sysModules) = false ∧ ∃ es ep, DT.Raw s.heap a es ep ∧ es.size = kvs.length := by
  obtain ⟨_, no_sys, xs, rel, o, es, ep, o_at, is_d, data, listed, _⟩ := dt_of I.hok at_a
  exact ⟨no_sys, es, ep, ⟨o, o_at, is_d, data⟩, (size_of_entries listed).trans (Paired.length rel).symm⟩
/-- d != e, e empty -/
def rNeE : R2 := fun x y H Q => ∃ (a b : Addr) (kvs : List (List Key × V)), x = .ref a ∧ y = .ref b ∧ H a = some (.dT kvs) ∧ H b = some (.dT []) ∧ Q (.bl (!kvs.isEmpty)) H
theorem op_neE {X : Cx} (room : X.A.units < cLine) : OpR X (compareOp .NotEq) rNeE := by
  intro pins s σ H x y v u Q I rx ry ⟨a, b, kvs, x_is, y_is, at_a, at_b, q⟩
  subst x_is y_is
  obtain rfl : v = Value.ref a := rx
  obtain rfl : u = Value.ref b := ry
  obtain ⟨no_a, es, ep, da, size_a⟩ := raw_dT I at_a
  obtain ⟨no_b, es2, ep2, db, size_b⟩ := raw_dT I at_b
  obtain rfl : es2 = #[] := Array.size_eq_zero_iff.mp size_b
  refine ne_empty no_a no_b da db room ⟨.bl (!kvs.isEmpty), H, I, ?_, q⟩
  show Value.bool _ = Value.bool _
  rw [size_a]
  cases kvs <;> simp
end TW
set_option Elab.async false
set_option linter.all false
set_option maxRecDepth 100000
set_option maxHeartbeats 4000000
/-! dicts with tuple keys as lists of pairs -/
namespace TW
open PySem PySem.Spec PyProof.Rows L2
open Evl (Ex)
section
variable {α β : Type} [DecidableEq α]
def aGet (m : List (α × β)) (a : α) : Option β := (m.find? fun p => decide (p.1 = a)).map (·.2)
def aPut (m : List (α × β)) (a : α) (b : β) : List (α × β) := if a ∈ m.map (·.1) then m.map (fun p => if p.1 = a then (p.1, b) else p) else m ++ [(a, b)]
def aMerge (m more : List (α × β)) : List (α × β) := more.foldl (fun acc p => aPut acc p.1 p.2) m
theorem aGet_nil (a : α) : aGet ([] : List (α × β)) a = none := rfl
theorem aGet_cons (p : α × β) (m : List (α × β)) (a : α) : aGet (p :: m) a = if p.1 = a then some p.2 else aGet m a := by
  unfold aGet
  by_cases h : p.1 = a <;> simp [List.find?_cons, h]
theorem aGet_none {m : List (α × β)} {a : α} : aGet m a = none ↔ a ∉ m.map (·.1) := by
  induction m with
  | nil => simp [aGet]
  | cons p m ih =>
    rw [aGet_cons]
    by_cases h : p.1 = a
    · simp [h]
    · rw [if_neg h, ih]
      simp [Ne.symm h]
theorem aGet_some {m : List (α × β)} {a : α} : (∃ b, aGet m a = some b) ↔ a ∈ m.map (·.1) := by
  cases h : aGet m a with
  | none => simp only [aGet_none.mp h, iff_false]; rintro ⟨b, z⟩; cases z
  | some b =>
    refine ⟨fun _ => ?_, fun _ => ⟨b, rfl⟩⟩
    by_cases q : a ∈ m.map (·.1)
    · exact q
    · rw [aGet_none.mpr q] at h; cases h
theorem aGet_of_mem {m : List (α × β)} {a : α} {b : β} (nd : (m.map (·.1)).Nodup) (h : (a, b) ∈ m) : aGet m a = some b := by
  induction m with
  | nil => cases h
  | cons p m ih =>
    rw [aGet_cons]
    rw [List.map_cons, List.nodup_cons] at nd
    rcases List.mem_cons.mp h with rfl | h
    · simp
    · rw [if_neg (fun z : p.1 = a => nd.1 (by rw [z]; exact List.mem_map.mpr ⟨(a, b), h, rfl⟩)), ih nd.2 h]
theorem mem_of_aGet {m : List (α × β)} {a : α} {b : β} (h : aGet m a = some b) : (a, b) ∈ m := by
  induction m with
  | nil => cases h
  | cons p m ih =>
    rw [aGet_cons] at h
    by_cases q : p.1 = a
    · rw [if_pos q] at h
      cases h
      subst q
      exact List.mem_cons_self
    · rw [if_neg q] at h
      exact List.mem_cons_of_mem _ (ih h)
theorem aPut_keys (m : List (α × β)) (a : α) (b : β) : (aPut m a b).map (·.1) = if a ∈ m.map (·.1) then m.map (·.1) else m.map (·.1) ++ [a] := by
  unfold aPut
  split
  · rw [List.map_map]
    apply List.map_congr_left
    intro p _
    show (if p.1 = a then (p.1, b) else p).1 = p.1
    split <;> rfl
  · simp
theorem aPut_nodup {m : List (α × β)} (nd : (m.map (·.1)).Nodup) (a : α) (b : β) : ((aPut m a b).map (·.1)).Nodup := by
  rw [aPut_keys]
  split
  · exact nd
  · rename_i h
    exact List.nodup_append.mpr ⟨nd, by simp, fun x hx y hy e => h (by rw [← List.mem_singleton.mp hy, ← e]; exact hx)⟩
theorem mem_aPut {m : List (α × β)} {a c : α} {b : β} : c ∈ (aPut m a b).map (·.1) ↔ c = a ∨ c ∈ m.map (·.1) := by
  rw [aPut_keys]
  split
  · rename_i h
    exact ⟨.inr, fun z => z.elim (fun z => z ▸ h) id⟩
  · rw [List.mem_append, List.mem_singleton]
    exact or_comm
theorem aGet_put (m : List (α × β)) (a c : α) (b : β) : aGet (aPut m a b) c = if c = a then some b else aGet m c := by
  unfold aPut
  split
  · rename_i h
    induction m with
    | nil => cases h
    | cons p m ih =>
      rw [List.map_cons, aGet_cons, aGet_cons]
      by_cases hp : p.1 = a
      · simp only [if_pos hp]
        by_cases hc : p.1 = c
        · simp [hc, hp ▸ hc.symm]
        · rw [if_neg hc, if_neg hc, if_neg (fun z => hc (hp.trans z.symm))]
          by_cases hm : a ∈ m.map (·.1)
          · rw [ih hm, if_neg (fun z => hc (hp.trans z.symm))]
          · clear ih
            have : m.map (fun p => if p.1 = a then (p.1, b) else p) = m := by
              conv => rhs; rw [← List.map_id m]
              apply List.map_congr_left
              intro q hq
              rw [if_neg (fun z : q.1 = a => hm (by rw [← z]; exact List.mem_map.mpr ⟨q, hq, rfl⟩))]
              rfl
            rw [this]
      · simp only [if_neg hp]
        rw [List.map_cons] at h
        have hm : a ∈ m.map (·.1) := (List.mem_cons.mp h).resolve_left fun z => hp z.symm
        rw [ih hm]
        by_cases hc : p.1 = c
        · rw [if_pos hc, if_pos hc, if_neg (fun z => hp (hc.trans z))]
        · rw [if_neg hc, if_neg hc]
  · rename_i h
    induction m with
    | nil => simp [aGet_cons, aGet_nil, eq_comm]
    | cons p m ih =>
      rw [List.cons_append, aGet_cons, aGet_cons]
      rw [List.map_cons, List.mem_cons, not_or] at h
      rw [ih h.2]
      by_cases hc : p.1 = c
      · rw [if_pos hc, if_pos hc, if_neg (fun z : c = a => h.1 (by rw [← z]; exact hc.symm))]
      · rw [if_neg hc, if_neg hc]
theorem length_aPut (m : List (α × β)) (a : α) (b : β) : (aPut m a b).length ≤ m.length + 1 := by
  unfold aPut
  split
  · simp
  · simp
theorem aMerge_snoc (m more : List (α × β)) (p : α × β) : aMerge m (more ++ [p]) = aPut (aMerge m more) p.1 p.2 := by
  unfold aMerge
  rw [List.foldl_append]
  rfl
theorem aMerge_nodup {m : List (α × β)} (nd : (m.map (·.1)).Nodup) : ∀ more : List (α × β), ((aMerge m more).map (·.1)).Nodup := by
  intro more
  induction more generalizing m with
  | nil => exact nd
  | cons p more ih => exact ih (aPut_nodup nd p.1 p.2)
theorem mem_aMerge {m : List (α × β)} {c : α} : ∀ {more : List (α × β)}, c ∈ (aMerge m more).map (·.1) ↔ c ∈ m.map (·.1) ∨ c ∈ more.map (·.1) := by
  intro more
  induction more generalizing m with
  | nil => simp [aMerge]
  | cons p more ih =>
    show c ∈ (aMerge (aPut m p.1 p.2) more).map (·.1) ↔ _
    rw [ih, mem_aPut, List.map_cons, List.mem_cons]
    constructor
    · rintro ((h | h) | h)
      · exact .inr (.inl h)
      · exact .inl h
      · exact .inr (.inr h)
    · rintro (h | h | h)
      · exact .inl (.inr h)
      · exact .inl (.inl h)
      · exact .inr h
/-- keys that are new: behind -/
theorem aPut_new {m : List (α × β)} {a : α} (h : a ∉ m.map (·.1)) (b : β) : aPut m a b = m ++ [(a, b)] := by
  unfold aPut
  rw [if_neg h]
theorem aMerge_new : ∀ {more m : List (α × β)}, (∀ p ∈ more, p.1 ∉ m.map (·.1)) → (more.map (·.1)).Nodup → aMerge m more = m ++ more
  | [], m, _, _ => (List.append_nil m).symm
  | p :: more, m, h, nd => by
    rw [List.map_cons, List.nodup_cons] at nd
    show aMerge (aPut m p.1 p.2) more = _
    rw [aPut_new (h p List.mem_cons_self), aMerge_new (fun q hq => ?_) nd.2]
    · simp
    · rw [List.map_append, List.mem_append, not_or]
      refine ⟨h q (List.mem_cons_of_mem _ hq), fun z => ?_⟩
      have z' : q.1 = p.1 := by simpa using z
      exact nd.1 (z' ▸ List.mem_map.mpr ⟨q, hq, rfl⟩)
end
/-- the dict's pairs are those of m -/
abbrev MapR {α β : Type} (K : PySem.W.Frag) (kE : α → List Key) (vE : β → PyData) (F : Hp) (kvs : List (List Key × V)) (m : List (α × β)) : Prop := Paired (fun kv p => kv.1 = kE p.1 ∧ Dp K F kv.2 (vE p.2)) kvs m
section
variable {α β : Type} [DecidableEq α] {K : PySem.W.Frag} {kE : α → List Key} {vE : β → PyData} {F F' : Hp} {kvs more : List (List Key × V)} {m n : List (α × β)}
theorem MapR.ex (r : MapR K kE vE F kvs m) (e : Ex F F') : MapR K kE vE F' kvs m := Paired.mapP r fun _ _ z => ⟨z.1, z.2.ex e⟩
theorem MapR.get (inj : ∀ a b, kE a = kE b → a = b) (r : MapR K kE vE F kvs m) (a : α) : (aGet m a = none ∧ valV kvs (kE a) = none) ∨ ∃ b v, aGet m a = some b ∧ valV kvs (kE a) = some v ∧ Dp K F v (vE b) := by
  induction r with
  | nil => exact .inl ⟨rfl, rfl⟩
  | @cons kv p kvs m h _ ih =>
    rw [aGet_cons]
    by_cases q : p.1 = a
    · rw [if_pos q, valV_pos (p := kv) (h.1.trans (congrArg kE q))]
      exact .inr ⟨_, _, rfl, rfl, h.2⟩
    · rw [if_neg q, valV_neg (p := kv) fun z => q (inj _ _ (h.1.symm.trans z))]
      exact ih
theorem MapR.has (inj : ∀ a b, kE a = kE b → a = b) (r : MapR K kE vE F kvs m) (a : α) : (valV kvs (kE a)).isSome = decide (a ∈ m.map (·.1)) := by
  rcases r.get inj a with ⟨h1, h2⟩ | ⟨b, v, h1, h2, _⟩
  · rw [h2, decide_eq_false (aGet_none.mp h1)]; rfl
  · rw [h2, decide_eq_true (aGet_some.mp ⟨b, h1⟩)]; rfl
theorem MapR.put (inj : ∀ a b, kE a = kE b → a = b) (r : MapR K kE vE F kvs m) (a : α) {b : β} {v : V} (hv : Dp K F v (vE b)) : MapR K kE vE F (putK kvs (kE a) v) (aPut m a b) := by
  unfold putK aPut
  rw [valV_any, r.has inj]
  by_cases h : a ∈ m.map (·.1)
  · rw [if_pos (decide_eq_true h), if_pos h]
    clear h
    induction r with
    | nil => exact .nil
    | @cons kv p kvs m h _ ih =>
      rw [List.map_cons, List.map_cons]
      refine .cons ?_ ih
      by_cases q : p.1 = a
      · rw [if_pos q, if_pos (h.1.trans (congrArg kE q))]
        exact ⟨h.1, hv⟩
      · rw [if_neg q, if_neg fun z => q (inj _ _ (h.1.symm.trans z))]
        exact h
  · rw [if_neg (by rw [decide_eq_false h]; exact Bool.false_ne_true), if_neg h]
    exact Paired.snoc r ⟨rfl, hv⟩
theorem MapR.merge (inj : ∀ a b, kE a = kE b → a = b) (r : MapR K kE vE F kvs m) (t : MapR K kE vE F more n) : MapR K kE vE F (mergeT kvs more) (aMerge m n) := by
  induction t generalizing kvs m with
  | nil => exact r
  | @cons kv p kvs2 m2 h _ ih =>
    have z := r.put inj p.1 h.2
    rw [← h.1] at z
    exact ih z
theorem MapR.len (r : MapR K kE vE F kvs m) : kvs.length = m.length := Paired.length r
theorem MapR.at_ (r : MapR K kE vE F kvs m) {i : Nat} {ks : List Key} {v : V} (h : kvs[i]? = some (ks, v)) : ∃ a b, m[i]? = some (a, b) ∧ ks = kE a ∧ Dp K F v (vE b) := by
  obtain ⟨p, h1, h2⟩ := paired_get r h
  exact ⟨p.1, p.2, h1, h2⟩
theorem MapR.empty (r : MapR K kE vE F kvs m) : kvs.isEmpty = m.isEmpty := by cases r <;> rfl
end
/-- a lot's key -/
def kI (l : List Int) : List Key := l.map Sum.inl
theorem kI_inj (a b : List Int) (h : kI a = kI b) : a = b := by
  unfold kI at h
  induction a generalizing b with
  | nil => cases b with
    | nil => rfl
    | cons _ _ => cases h
  | cons x a ih => cases b with
    | nil => cases h
    | cons y b =>
      rw [List.map_cons, List.map_cons, List.cons.injEq] at h
      rw [Sum.inl.inj h.1, ih b h.2]
theorem kI_V (l : List Int) : (kI l).map kV = l.map V.int := by
  unfold kI
  rw [List.map_map]
  rfl
end TW
set_option Elab.async false
set_option linter.all false
set_option maxRecDepth 100000
set_option maxHeartbeats 4000000
/-! the plain law of k05: all talks of so many arrows reach what is known -/
namespace TW
open PySem PySem.Spec PyProof.Rows L2
/-- a place, and what was heard on the way -/
abbrev PRow := Int × List Str
def ext1 (k : Str) : List Str := if k = "" then [] else [k]
/-- one arrow on -/
def Nxt (R : List (Int × Str × Int)) (x y : PRow) : Prop := ∃ k, (x.1, k, y.1) ∈ R ∧ y.2 = x.2 ++ ext1 k ∧ y.2.length ≤ 2
/-- by so many arrows -/
def Lay (R : List (Int × Str × Int)) (S : Int → Prop) : Nat → PRow → Prop
  | 0, x => S x.1 ∧ x.2 = []
  | n + 1, y => ∃ x, Lay R S n x ∧ Nxt R x y
section
variable {R : List (Int × Str × Int)} {S : Int → Prop}
theorem Lay.len : ∀ {n : Nat} {x : PRow}, Lay R S n x → x.2.length ≤ 2
  | 0, x, h => by rw [h.2]; exact Nat.zero_le _
  | n + 1, y, ⟨_, _, _, _, _, h⟩ => h
theorem Lay.within {P : Int → Prop} (w : Within R P) (s : ∀ z, S z → P z) : ∀ {n : Nat} {x : PRow}, Lay R S n x → P x.1
  | 0, x, h => s _ h.1
  | n + 1, y, ⟨_, _, _, e, _⟩ => (w _ _ _ e).2
/-- reached from the front by silent steps alone -/
theorem reach_closed {T : Int → Prop} {p q : Int} (h : ReachP R T p) (e : (p, ("" : Str), q) ∈ R) : ReachP R T q := .step h e
theorem goes_closed : ∀ (row : List Str) {p q : Int}, Goes R (ReachP R S) row p → (p, ("" : Str), q) ∈ R → Goes R (ReachP R S) row q := by
  intro row p q h e
  rcases List.eq_nil_or_concat row with rfl | ⟨r, k, rfl⟩
  · exact .step h e
  · rw [List.concat_eq_append, Goes.snoc] at h ⊢
    exact .step h e
theorem lay_goes : ∀ {n : Nat} {x : PRow}, Lay R S n x → Goes R (ReachP R S) x.2 x.1
  | 0, x, h => by rw [h.2]; exact .base h.1
  | n + 1, y, ⟨x, hx, k, e, er, _⟩ => by
    have ih := lay_goes hx
    rw [er]
    unfold ext1
    by_cases z : k = ""
    · rw [if_pos z, List.append_nil]
      rw [z] at e
      exact goes_closed _ ih e
    · rw [if_neg z, Goes.snoc]
      exact .base ⟨_, ih, e⟩
theorem reach_lay {T : Int → Prop} {row : List Str} (l : row.length ≤ 2) (s : ∀ z, T z → ∃ n, Lay R S n (z, row)) {q : Int} (h : ReachP R T q) : ∃ n, Lay R S n (q, row) := by
  induction h with
  | base h => exact s _ h
  | step _ e ih =>
    obtain ⟨n, hn⟩ := ih
    exact ⟨n + 1, _, hn, "", e, by simp [ext1], l⟩
theorem goes_lay : ∀ (n : Nat) (row : List Str), row.length = n → row.length ≤ 2 → (∀ k ∈ row, k ≠ "") → ∀ {q : Int}, Goes R (ReachP R S) row q → ∃ n, Lay R S n (q, row) := by
  intro n
  induction n with
  | zero =>
    intro row e l _ q h
    obtain rfl := List.eq_nil_of_length_eq_zero e
    exact reach_lay (T := S) l (fun z hz => ⟨0, hz, rfl⟩) h
  | succ n ih =>
    intro row0 e l ne q h
    obtain ⟨row, k, rfl⟩ : ∃ r k, row0 = r ++ [k] := by
      rcases List.eq_nil_or_concat row0 with rfl | ⟨r, k, rfl⟩
      · exact nomatch e
      · exact ⟨r, k, List.concat_eq_append⟩
    rw [Goes.snoc] at h
    have kn : k ≠ "" := ne k (by simp)
    refine reach_lay l (fun z ⟨p, hp, e'⟩ => ?_) h
    have len : row.length = n := by rw [List.length_append] at e; simpa using e
    obtain ⟨j, hj⟩ := ih row len (by rw [List.length_append] at l; simp at l; omega) (fun k' m => ne k' (by simp [m])) hp
    exact ⟨j + 1, _, hj, k, e', by simp [ext1, kn], l⟩
/-- a shortest way meets states that are all unlike -/
theorem lay_path : ∀ (n : Nat) (x : PRow), Lay R S n x → (∀ n' < n, ¬ Lay R S n' x) → ∃ l : List PRow, l.length = n + 1 ∧ l.Nodup ∧ (∀ y ∈ l, y.2 <+: x.2) ∧ ∀ y ∈ l, ∃ j, j ≤ n ∧ Lay R S j y
  | 0, x, h, _ => ⟨[x], rfl, by simp, fun y m => by rw [List.mem_singleton.mp m]; exact List.prefix_refl _, fun y m => ⟨0, Nat.le_refl _, by rw [List.mem_singleton.mp m]; exact h⟩⟩
  | n + 1, x, h, least => by
    obtain ⟨z, hz, st⟩ := h
    obtain ⟨l, l1, l2, l3, l4⟩ := lay_path n z hz fun n' lt hn' => least (n' + 1) (by omega) ⟨z, hn', st⟩
    have pre : z.2 <+: x.2 := by
      obtain ⟨k, _, e, _⟩ := st
      rw [e]; exact List.prefix_append _ _
    refine ⟨x :: l, by rw [List.length_cons, l1], List.nodup_cons.mpr ⟨fun m => ?_, l2⟩, fun y m => ?_, fun y m => ?_⟩
    · obtain ⟨j, le, hj⟩ := l4 x m
      exact least j (by omega) hj
    · rcases List.mem_cons.mp m with rfl | m
      · exact List.prefix_refl _
      · exact (l3 y m).trans pre
    · rcases List.mem_cons.mp m with rfl | m
      · exact ⟨n + 1, Nat.le_refl _, z, hz, st⟩
      · obtain ⟨j, le, hj⟩ := l4 y m
        exact ⟨j, by omega, hj⟩
theorem flat_le {α β : Type} {f : α → List β} {c : Nat} : ∀ (l : List α), (∀ x ∈ l, (f x).length ≤ c) → (l.flatMap f).length ≤ l.length * c
  | [], _ => by simp
  | x :: l, h => by
    have ih := flat_le l fun y m => h y (List.mem_cons_of_mem _ m)
    have hx := h x List.mem_cons_self
    rw [List.flatMap_cons, List.length_append, List.length_cons, Nat.add_mul, Nat.one_mul]
    omega
theorem least_nat {p : Nat → Prop} : ∀ n, p n → ∃ k, k ≤ n ∧ p k ∧ ∀ k', k' < k → ¬ p k' := by
  intro n
  induction n using Nat.strongRecOn with
  | ind n ih =>
    intro h
    by_cases c : ∃ k', k' < n ∧ p k'
    · obtain ⟨k', h1, h2⟩ := c
      obtain ⟨k, a, b, d⟩ := ih k' h1 h2
      exact ⟨k, by omega, b, d⟩
    · exact ⟨n, Nat.le_refl _, h, fun k' hk hp => c ⟨k', hk, hp⟩⟩
/-- three times as many arrows as places are enough -/
theorem lay_short {many : Nat} (w : Within R fun z => 0 ≤ z ∧ z < (many : Int)) (s : ∀ z, S z → 0 ≤ z ∧ z < (many : Int)) {n : Nat} {x : PRow} (h : Lay R S n x) : ∃ k, k ≤ 3 * many ∧ Lay R S k x := by
  obtain ⟨k, _, hk, least⟩ := least_nat (p := fun n => Lay R S n x) n h
  refine ⟨k, ?_, hk⟩
  obtain ⟨l, l1, l2, l3, l4⟩ := lay_path k x hk least
  have len := hk.len
  have z := nodup_le (l := l) (m := (List.range (x.2.length + 1)).flatMap fun i => (List.range many).map fun p : Nat => ((p : Int), x.2.take i)) l2 fun y m => by
    obtain ⟨j, _, hj⟩ := l4 y m
    obtain ⟨p0, p1⟩ := hj.within w s
    have pre := l3 y m
    refine List.mem_flatMap.mpr ⟨y.2.length, List.mem_range.mpr (by have := pre.length_le; omega), List.mem_map.mpr ⟨y.1.toNat, List.mem_range.mpr (by omega), ?_⟩⟩
    rw [← List.prefix_iff_eq_take.mp pre, Int.toNat_of_nonneg p0]
  have z2 := flat_le (f := fun i => (List.range many).map fun p : Nat => ((p : Int), x.2.take i)) (c := many) (List.range (x.2.length + 1)) fun i _ => by rw [List.length_map, List.length_range]; exact Nat.le_refl _
  rw [List.length_range] at z2
  have z3 : (x.2.length + 1) * many ≤ 3 * many := Nat.mul_le_mul_right _ (by omega)
  omega
/-- the plain law -/
theorem lay_known {many : Nat} (w : Within R fun z => 0 ≤ z ∧ z < (many : Int)) (s : ∀ z, S z → 0 ≤ z ∧ z < (many : Int)) {row : List Str} (l : row.length ≤ 2) (ne : ∀ k ∈ row, k ≠ "") (q : Int) :
    (∃ k, k ≤ 3 * many ∧ Lay R S k (q, row)) ↔ Goes R (ReachP R S) row q := by
  constructor
  · rintro ⟨k, _, h⟩
    exact lay_goes h
  · intro h
    obtain ⟨n, hn⟩ := goes_lay row.length row rfl l ne h
    exact lay_short w s hn
end
/-! ### dicts as lists of pairs, their values as one likes -/
abbrev MapQ {α β : Type} (kE : α → List Key) (Rv : V → β → Prop) (kvs : List (List Key × V)) (m : List (α × β)) : Prop := Paired (fun kv p => kv.1 = kE p.1 ∧ Rv kv.2 p.2) kvs m
section
variable {α β : Type} [DecidableEq α] {kE : α → List Key} {Rv Rv' : V → β → Prop} {kvs : List (List Key × V)} {m : List (α × β)}
theorem MapQ.up (r : MapQ kE Rv kvs m) (e : ∀ v b, Rv v b → Rv' v b) : MapQ kE Rv' kvs m := Paired.mapP r fun _ _ z => ⟨z.1, e _ _ z.2⟩
theorem MapQ.get (inj : ∀ a b, kE a = kE b → a = b) (r : MapQ kE Rv kvs m) (a : α) : (aGet m a = none ∧ valV kvs (kE a) = none) ∨ ∃ b v, aGet m a = some b ∧ valV kvs (kE a) = some v ∧ Rv v b := by
  induction r with
  | nil => exact .inl ⟨rfl, rfl⟩
  | @cons kv p kvs m h _ ih =>
    rw [aGet_cons]
    by_cases q : p.1 = a
    · rw [if_pos q, valV_pos (p := kv) (h.1.trans (congrArg kE q))]
      exact .inr ⟨_, _, rfl, rfl, h.2⟩
    · rw [if_neg q, valV_neg (p := kv) fun z => q (inj _ _ (h.1.symm.trans z))]
      exact ih
theorem MapQ.put (inj : ∀ a b, kE a = kE b → a = b) (r : MapQ kE Rv kvs m) (a : α) {b : β} {v : V} (hv : Rv v b) : MapQ kE Rv (putK kvs (kE a) v) (aPut m a b) := by
  have has : (valV kvs (kE a)).isSome = decide (a ∈ m.map (·.1)) := by
    rcases MapQ.get inj r a with ⟨h1, h2⟩ | ⟨b, v, h1, h2, _⟩
    · rw [h2, decide_eq_false (aGet_none.mp h1)]; rfl
    · rw [h2, decide_eq_true (aGet_some.mp ⟨b, h1⟩)]; rfl
  unfold putK aPut
  rw [valV_any, has]
  by_cases h : a ∈ m.map (·.1)
  · rw [if_pos (decide_eq_true h), if_pos h]
    clear h has
    induction r with
    | nil => exact .nil
    | @cons kv p kvs m h _ ih =>
      rw [List.map_cons, List.map_cons]
      refine .cons ?_ ih
      by_cases q : p.1 = a
      · rw [if_pos q, if_pos (h.1.trans (congrArg kE q))]
        exact ⟨h.1, hv⟩
      · rw [if_neg q, if_neg fun z => q (inj _ _ (h.1.symm.trans z))]
        exact h
  · rw [if_neg (by rw [decide_eq_false h]; exact Bool.false_ne_true), if_neg h]
    exact Paired.snoc r ⟨rfl, hv⟩
theorem MapQ.len (r : MapQ kE Rv kvs m) : kvs.length = m.length := Paired.length r
end
/-- a row's key -/
def kS (l : List Str) : List Key := l.map Sum.inr
theorem kS_inj : ∀ (a b : List Str), kS a = kS b → a = b
  | [], [], _ => rfl
  | [], _ :: _, h => nomatch h
  | _ :: _, [], h => nomatch h
  | x :: a, y :: b, h => by
    unfold kS at h
    rw [List.map_cons, List.map_cons, List.cons.injEq] at h
    rw [Sum.inr.inj h.1, kS_inj a b h.2]
theorem kS_V (l : List Str) : (kS l).map kV = l.map V.str := by
  unfold kS
  rw [List.map_map]
  rfl
end TW
set_option Elab.async false
set_option linter.all false
set_option maxRecDepth 100000
set_option maxHeartbeats 8000000
/-! sets of tuples of ints and texts, of any lengths: adding one -/
namespace TW
open PySem PySem.Spec PyProof.Rows L2

/-! ### where a search of a table stops, said of its steps alone -/
section
variable {t : SetTable} {hs : List Int}
/-- the state of the search for the hash h at its c-th step -/
abbrev stepAt (t : SetTable) (h : Int) (c : Nat) : SetTable.Probe := nth t.mask (runAt t.mask (SetTable.bits h % (t.mask + 1)) (SetTable.bits h)) c
theorem stepAt_add (h : Int) (c q : Nat) : nth t.mask (stepAt t h c) q = stepAt t h (c + q) := (nth_add t.mask c _ q).symm
theorem stepAt_j (h : Int) (c q : Nat) : (nth t.mask (stepAt t h c) q).j = way t.mask h (c + q) := congrArg SetTable.Probe.j (stepAt_add h c q)
theorem nth_dummy (m : Nat) : ∀ (n : Nat) (p : SetTable.Probe), p.dummy = none → (nth m p n).dummy = none
  | 0, _, d => d
  | n + 1, p, d => nth_dummy m n (adv m p) (by unfold adv; split <;> exact d)
/-- from its c-th step on the search meets an entry of the hash, and passes none, or the first empty slot, and no entry of the hash is left -/
theorem probe_cases (T : TabOk t hs) (hashAt : Nat → Int) (h : Int) {K c : Nat} (le : c ≤ K) (fuel : K < 10 * SetTable.turns t.mask) (free : way t.mask h K ∉ t.place.toList) (full : ∀ k, k < K → way t.mask h k ∈ t.place.toList) :
    (∃ d i, c ≤ d ∧ d < K ∧ t.place.toList[i]? = some (way t.mask h d) ∧ (∀ d' i', c ≤ d' → d' < d → t.place.toList[i']? = some (way t.mask h d') → hashAt i' ≠ h) ∧ t.probe hashAt h (stepAt t h c) = some (.candidate (way t.mask h d) i (stepAt t h (d + 1)))) ∨
      ((∀ d' i', c ≤ d' → d' < K → t.place.toList[i']? = some (way t.mask h d') → hashAt i' ≠ h) ∧ t.probe hashAt h (stepAt t h c) = some (.empty (way t.mask h K) none)) := by
  have at_ : ∀ d, c ≤ d → (nth t.mask (stepAt t h c) (d - c)).j = way t.mask h d := fun d z => by rw [stepAt_j, Nat.add_sub_cancel' z]
  rcases go_spec t T.ris T.dm hashAt h (10 * SetTable.turns t.mask) (K - c) (stepAt t h c) (nth_dummy _ _ _ rfl) (by omega) (fun q lt => by rw [stepAt_j]; exact full _ (by omega)) (by rw [at_ K le]; exact free) with ⟨q, i, lt, there, _, none_, is_⟩ | ⟨none_, is_⟩
  · refine .inl ⟨c + q, i, Nat.le_add_right _ _, by omega, by rw [← stepAt_j]; exact there, fun d' i' l1 l2 e => none_ (d' - c) i' (by omega) (by rw [at_ d' l1]; exact e), ?_⟩
    rw [← stepAt_j, Nat.add_assoc, ← stepAt_add]
    exact is_
  · refine .inr ⟨fun d' i' l1 l2 e => none_ (d' - c) i' (by omega) (by rw [at_ d' l1]; exact e), ?_⟩
    rw [← at_ K le]
    exact is_
end

/-! ### tuples of ints and texts -/
abbrev hashT (P : Program) (w : World) (k : List Key) : Int := tupleKeyHash (mixKind P w) k
abbrev IsU (P : Program) (w : World) (h : Heap) (k : List Key) (a : Addr) : Prop := IsTupleKey (mixKind P w) h k a
section
variable {P : Program} {w : World} {A : Around} {E : Value → Shared → Prop} {s : Shared}
theorem items_keys {k : List Key} {vs : List Value} (r : ItemsAre (mixKind P w) k vs) : ∀ v ∈ vs, ∃ i : Key, keyIs i v = true := by
  induction r with
  | nil => exact fun v m => nomatch m
  | @cons i u ks us q _ ih =>
    intro v m
    rcases List.mem_cons.mp m with e | m
    · exact ⟨i, by rw [e]; exact q⟩
    · exact ih v m
/-- a loop over a tuple's items that asks each one something and goes on if the answer is d -/
theorem ask_each {f : Value → Sem Bool} {d : Bool} {Q : Option Bool × Unit → Shared → Prop} {body : Value → Option Bool × Unit → Sem (ForInStep (Option Bool × Unit))} : ∀ (l : List Value), (∀ v ∈ l, ∀ Q' : ForInStep (Option Bool × Unit) → Shared → Prop, Q' (.yield (none, ())) s → wpAny (model P w) A (body v (none, ())) Q' E s) →
    Q (none, ()) s → wpAny (model P w) A (forIn l (none, ()) body) Q E s
  | [], _, q => wpAny_pure q
  | v :: l, each, q => by
    rw [List.forIn_cons]
    exact wpAny_bind (each v List.mem_cons_self _ (ask_each (f := f) (d := d) l (fun u m => each u (List.mem_cons_of_mem _ m)) q))
theorem noClass {k : List Key} {b : Addr} {Q : Bool → Shared → Prop} (is_ : IsU P w s.heap k b) (q : Q false s) : wpAny (model P w) A (ofAClassStatement 8 (.ref b)) Q E s := by
  have type_ := is_.typeIs
  obtain ⟨o, its, n, at_b, _, data, keys⟩ := is_
  unfold ofAClassStatement
  refine wpAny_bind (wpAny_typeOf type_ ?_)
  have yes : (("tuple" : String) == "tuple") = true := by decide
  simp only [yes, if_true]
  refine wpAny_bind (wpAny_pure ?_)
  simp only [Bool.not_true, Bool.false_eq_true, if_false]
  refine wpAny_bind (wpAny_seqItems at_b data ?_)
  refine wpAny_bind ?_
  show wpAny _ _ (forIn its _ _) _ _ s
  rw [← Array.forIn_toList]
  refine ask_each (f := ofAClassStatement 7) (d := false) its.toList (fun v m Q' q' => ?_) (wpAny_pure q)
  obtain ⟨i, z⟩ := items_keys keys v m
  rcases keyIs_shape z with ⟨j, tk, _, rfl⟩ | ⟨x, tk, _, rfl⟩ <;> exact wpAny_bind (wpAny_pure (wpAny_pure q'))
theorem hashWay {k : List Key} {b : Addr} {Q : Bool → Shared → Prop} (is_ : IsU P w s.heap k b) (q : ∀ c, Q c s) : wpAny (model P w) A (hashByValue 8 (.ref b)) Q E s := by
  have type_ := is_.typeIs
  obtain ⟨o, its, n, at_b, _, data, keys⟩ := is_
  unfold hashByValue
  refine wpAny_bind (wpAny_specialOf type_ F.slot_tuple_hash.lookup ?_)
  show wpAny _ _ (seqItems? (.ref b) >>= _) _ _ s
  refine wpAny_bind (wpAny_seqItems at_b data (wpAny_bind ?_))
  show wpAny _ _ (forIn its _ _) _ _ s
  rw [← Array.forIn_toList]
  refine wpAny_forIn_list _ (fun rest _ s' => s' = s ∧ ∀ v ∈ rest, ∃ i : Key, keyIs i v = true) _ ?_ ?_ _ _ ⟨rfl, items_keys keys⟩
  · rintro v rest r s' ⟨rfl, all⟩
    have go : ∀ c : Bool, wpAny (model P w) A (do if (!c) = true then pure (ForInStep.done (some false, ())) else pure (ForInStep.yield (none, ()))) (fun r' s'' => match r' with | .done b => (fun (r : Option Bool × Unit) s' => wpAny (model P w) A (match r.1 with | none => pure true | some a => pure a) Q E s') b s'' | .yield b => s'' = s' ∧ ∀ u ∈ rest, ∃ i : Key, keyIs i u = true) E s' := fun c => by
      cases c
      · exact wpAny_pure (wpAny_pure (q false))
      · exact wpAny_pure ⟨rfl, fun u m => all u (List.mem_cons_of_mem _ m)⟩
    obtain ⟨i, z⟩ := all v List.mem_cons_self
    rcases keyIs_shape z with ⟨j, tk, _, rfl⟩ | ⟨x, tk, _, rfl⟩
    · exact wpAny_bind (wpAny_pure (go true))
    · exact wpAny_bind (wpAny_pure (go false))
  · rintro ⟨r1, r2⟩ s' ⟨rfl, _⟩
    cases r1 <;> exact wpAny_pure (q _)
end
end TW
namespace TW
open PySem PySem.Spec PyProof.Rows L2
section
variable {P : Program} {w : World} {A : Around} {E : Value → Shared → Prop} {s : Shared}
/-- the set at a: what stands in it, each at its address; nothing is said of the tuples themselves -/
structure SetU (P : Program) (w : World) (h : Heap) (a : Addr) (L : List (Addr × List Key)) (o : Obj) (es : Array (Int × Value)) (ep : Nat) (t : SetTable) : Prop where
  obj : h.get? a = some o
  exact_ : o.ExactSet
  data : o.data = .set es ep t
  rows : es.toList = L.map fun p => (hashT P w p.2, Value.ref p.1)
  tab : TabOk t (L.map fun p => hashT P w p.2)
  once : (L.map (·.2)).Nodup
  led : w.params.followText "set-order" = true ∨ t.led = true
  room : L.length * 5 < t.mask * 3
  few : L.length < 64
def Tups (P : Program) (w : World) (h : Heap) (L : List (Addr × List Key)) : Prop := ∀ p ∈ L, IsU P w h p.2 p.1
variable {a : Addr} {L : List (Addr × List Key)} {o : Obj} {es : Array (Int × Value)} {ep : Nat} {t : SetTable}
theorem SetU.size {h : Heap} (S : SetU P w h a L o es ep t) : es.size = L.length := by
  have z := congrArg List.length S.rows
  rw [Array.length_toList, List.length_map] at z
  exact z
theorem SetU.places {h : Heap} (S : SetU P w h a L o es ep t) : t.place.size = L.length := by
  have z := S.tab.sz
  rw [List.length_map] at z
  exact z
theorem SetU.fits {h : Heap} (S : SetU P w h a L o es ep t) : t.fits es.size = true := by
  have z1 := S.places
  have z2 := S.size
  have z3 := S.room
  unfold SetTable.fits SetTable.fill
  rw [S.tab.dm, Bool.and_eq_true, beq_iff_eq, decide_eq_true_eq]
  show t.place.size = es.size ∧ t.place.size + 0 ≤ t.mask
  omega
theorem SetU.at {h : Heap} (S : SetU P w h a L o es ep t) {i : Nat} {p : Addr × List Key} (e : L[i]? = some p) : es[i]? = some (hashT P w p.2, Value.ref p.1) := by
  rw [← Array.getElem?_toList, S.rows, List.getElem?_map, e]
  rfl
/-- what stands at a slot that is taken -/
theorem SetU.live {h : Heap} (S : SetU P w h a L o es ep t) {i j : Nat} (e : t.place.toList[i]? = some j) : ∃ p, L[i]? = some p := by
  have lt := (List.getElem?_eq_some_iff.mp e).1
  rw [Array.length_toList, S.places] at lt
  exact ⟨_, List.getElem?_eq_getElem lt⟩
/-- a search shows nothing of the table: all that has the hash is a tuple -/
theorem unseen {k : List Key} {b : Addr} {Q : Bool → Shared → Prop} (is_ : IsU P w s.heap k b) (q : Q false s) : ∀ (ys : List Value), (∀ y ∈ ys, ∃ k' c, y = Value.ref c ∧ IsU P w s.heap k' c) → wpAny (model P w) A (searchCouldBeSeen (.ref b) ys) Q E s := by
  intro ys all
  unfold searchCouldBeSeen
  refine wpAny_bind (ask_each (f := fun _ => pure false) (d := false) ys (fun y m Q' q' => ?_) (wpAny_pure q))
  obtain ⟨k', c, rfl, is'⟩ := all y m
  dsimp only
  by_cases very : (b == c || (carriedByValue (.ref b) && carriedByValue (.ref c))) = true
  · exact wp_if_pos very (wpAny_pure q')
  · refine wp_if_neg very (wpAny_bind (wpAny_eqIsQuiet_tuple is_ ?_))
    refine wp_if_neg (by simp) (wpAny_bind (wpAny_eqIsQuiet_tuple is' ?_))
    refine wp_if_neg (by simp) (wpAny_bind (noClass is_ ?_))
    refine wp_if_neg (by simp) (wpAny_bind (noClass is' ?_))
    exact wp_if_neg (by simp) (wpAny_pure q')
/-- the search for k, at its c-th step; nothing that is k has been passed -/
theorem seek (S : SetU P w s.heap a L o es ep t) (tups : Tups P w s.heap L) {x : Addr} {k : List Key} (is_ : IsU P w s.heap k x) (hu : A.units < cLine) {K : Nat} (fuel : K < 10 * SetTable.turns t.mask) (free : way t.mask (hashT P w k) K ∉ t.place.toList)
    (full : ∀ d, d < K → way t.mask (hashT P w k) d ∈ t.place.toList) {Q : SetFound → Shared → Prop} (yes : k ∈ L.map (·.2) → Q (.there none) s) (no : k ∉ L.map (·.2) → Q (.free (way t.mask (hashT P w k) K) false) s) :
    ∀ (left c f : Nat) (stand : Option SetTable.Probe), K - c ≤ left → c ≤ K → left < f → stand.getD (t.probeStart (hashT P w k)) = stepAt t (hashT P w k) c → (∀ (i : Nat) p, L[i]? = some p → p.2 = k → ∃ d, c ≤ d ∧ d < K ∧ t.place.toList[i]? = some (way t.mask (hashT P w k) d)) →
      wpAny (model P w) A (setSearchFrom a (.ref x) (hashT P w k) true f stand) Q E s := by
  intro left
  induction left with
  | zero =>
    intro c f stand l1 le lf st ahead
    obtain ⟨f, rfl⟩ : ∃ f', f = f' + 1 := ⟨f - 1, by omega⟩
    rw [setSearchFrom_succ]
    refine wpAny_bind (wpAny_setState_of S.obj S.data S.fits ?_)
    dsimp only
    refine wp_if_neg (by unfold SetTable.gaveWay; rw [mask_odd S.tab.mok]; decide) ?_
    rcases probe_cases S.tab (fun i => (es[i]?.map (·.1)).getD 0) (hashT P w k) le fuel free full with ⟨d, i, d1, d2, _⟩ | ⟨_, is_⟩
    · omega
    rw [st, is_]
    refine wpAny_pure (no fun m => ?_)
    obtain ⟨p, p1, p2⟩ := List.mem_map.mp m
    obtain ⟨i, lt, e⟩ := List.getElem_of_mem p1
    obtain ⟨d, d1, d2, _⟩ := ahead i p (by rw [List.getElem?_eq_getElem lt, e]) p2
    omega
  | succ left ih =>
    intro c f stand l1 le lf st ahead
    obtain ⟨f, rfl⟩ : ∃ f', f = f' + 1 := ⟨f - 1, by omega⟩
    rw [setSearchFrom_succ]
    refine wpAny_bind (wpAny_setState_of S.obj S.data S.fits ?_)
    dsimp only
    refine wp_if_neg (by unfold SetTable.gaveWay; rw [mask_odd S.tab.mok]; decide) ?_
    have hash_at : ∀ {i : Nat} {p : Addr × List Key}, L[i]? = some p → (es[i]?.map (·.1)).getD 0 = hashT P w p.2 := fun e => by rw [S.at e]; rfl
    rcases probe_cases S.tab (fun i => (es[i]?.map (·.1)).getD 0) (hashT P w k) le fuel free full with ⟨d, i, d1, d2, at_d, none_, is2⟩ | ⟨none_, is2⟩
    · rw [st, is2]
      dsimp only
      obtain ⟨p, at_i⟩ := S.live at_d
      have m := List.mem_of_getElem? at_i
      have live : t.slot (way t.mask (hashT P w k) d) = .live i := slot_live S.tab.ris at_d
      have go : wpAny (model P w) A (searchRest a (.ref x) (hashT P w k) true f es t (way t.mask (hashT P w k) d) i (stepAt t (hashT P w k) (d + 1))) Q E s := by
        unfold searchRest
        rw [S.at at_i]
        dsimp only
        refine wpAny_bind (wpAny_holding (wpAny_eqBool_tuple hu (tups p m) is_ (wpAny_bind (wpAny_setState_of S.obj S.data S.fits ?_))))
        dsimp only
        by_cases same : p.2 = k
        · exact wp_if_pos (by simp [same]) (wpAny_pure (yes (List.mem_map.mpr ⟨p, m, same⟩)))
        · refine wp_if_neg (by simp [same]) ?_
          rw [sameMem]
          simp only [if_true, live, S.at at_i]
          refine wpAny_bind (wpAny_isSame_ref_self (wpAny_bind (wpAny_pure ?_)))
          simp only [if_true]
          refine wp_if_neg (by simp [same]) (ih (d + 1) f _ (by omega) (by omega) (by omega) rfl fun i' p' e1 e2 => ?_)
          obtain ⟨d', g1, g2, g3⟩ := ahead i' p' e1 e2
          rcases Nat.lt_trichotomy d' d with lt | rfl | gt
          · exact absurd ((hash_at e1).trans (by rw [e2])) (none_ d' i' g1 lt g3)
          · have z := (slot_live S.tab.ris g3).symm.trans live
            injection z with z
            subst z
            cases at_i.symm.trans e1
            exact absurd e2 same
          · exact ⟨d', gt, g2, g3⟩
      by_cases led : t.led = true
      · exact wp_if_neg (by simp [led]) go
      · refine wp_if_pos (by simp [led]) (wpAny_bind (unseen is_ (wp_if_neg (by decide) go) _ fun y my => ?_))
        obtain ⟨e, e1, rfl⟩ := List.mem_map.mp my
        have e2 : e ∈ es.toList := by
          have z : e ∈ es ∧ e.1 = hashT P w k := by simpa using e1
          simpa using z.1
        rw [S.rows] at e2
        obtain ⟨p2, p3, rfl⟩ := List.mem_map.mp e2
        exact ⟨_, _, rfl, tups p2 p3⟩
    · rw [st, is2]
      refine wpAny_pure (no fun m => ?_)
      obtain ⟨p, p1, p2⟩ := List.mem_map.mp m
      obtain ⟨i, lt, e⟩ := List.getElem_of_mem p1
      have e' : L[i]? = some p := by rw [List.getElem?_eq_getElem lt, e]
      obtain ⟨d, d1, d2, d3⟩ := ahead i p e' p2
      exact none_ d i d1 d2 d3 ((hash_at e').trans (by rw [p2]))
/-- the search of an add -/
theorem seek_all (S : SetU P w s.heap a L o es ep t) (tups : Tups P w s.heap L) {x : Addr} {k : List Key} (is_ : IsU P w s.heap k x) (hu : A.units < cLine) {Q : SetFound → Shared → Prop} (yes : k ∈ L.map (·.2) → Q (.there none) s)
    (no : ∀ K, k ∉ L.map (·.2) → way t.mask (hashT P w k) K ∉ t.place.toList → (∀ d, d < K → way t.mask (hashT P w k) d ∈ t.place.toList) → Q (.free (way t.mask (hashT P w k) K) false) s) : wpAny (model P w) A (setSearch a (.ref x) (hashT P w k) true) Q E s := by
  have room := S.room
  obtain ⟨K, fuel, free, full⟩ := S.tab.first (by rw [List.length_map]; omega) (hashT P w k)
  have turns : 10 * SetTable.turns t.mask < 100000 := by
    unfold SetTable.turns
    rcases S.tab.mok with e | e | e <;> omega
  refine seek S tups is_ hu fuel free full yes (fun n => no K n free full) K 0 100000 none (by omega) (Nat.zero_le _) (by omega) rfl fun i p e1 e2 => ?_
  have e3 : (L.map fun p => hashT P w p.2)[i]? = some (hashT P w k) := by rw [List.getElem?_map, e1, ← e2]; rfl
  have lt : i < t.place.toList.length := by
    rw [Array.length_toList, S.places]
    exact (List.getElem?_eq_some_iff.mp e1).1
  obtain ⟨d, d1, d2⟩ := S.tab.before free e3 (List.getElem?_eq_getElem lt)
  exact ⟨d, Nat.zero_le _, d1, by rw [List.getElem?_eq_getElem lt, d2]⟩
end
end TW
namespace TW
open PySem PySem.Spec PyProof.Rows L2
section
variable {P : Program} {w : World} {A : Around} {E : Value → Shared → Prop} {s : Shared}
variable {a : Addr} {L : List (Addr × List Key)} {o : Obj} {es : Array (Int × Value)} {ep : Nat} {t : SetTable}
theorem IsU.other {h h' : Heap} {k : List Key} {b : Addr} (is_ : IsU P w h k b) (at_a : h.get? a = some o) (data : o.data = .set es ep t) (same : Heap.SameBut a h h') : IsU P w h' k b := by
  obtain ⟨o', its, n, at_b, c, data', r⟩ := is_
  refine ⟨o', its, n, (same.2 b fun e => ?_).trans at_b, c, data', r⟩
  subst e
  cases at_b.symm.trans at_a
  exact nomatch data.symm.trans data'
theorem Tups.other {h h' : Heap} (tups : Tups P w h L) (at_a : h.get? a = some o) (data : o.data = .set es ep t) (same : Heap.SameBut a h h') : Tups P w h' L := fun p m => (tups p m).other at_a data same
/-- a set is laid anew in the order of some of its indices -/
theorem picked (L : List (Addr × List Key)) (es : Array (Int × Value)) (rows : es.toList = L.map fun p => (hashT P w p.2, Value.ref p.1)) : ∀ (is_ : List Nat), (∀ i ∈ is_, i < L.length) → ∃ L2 : List (Addr × List Key), is_.filterMap (fun i => L[i]?) = L2 ∧ is_.filterMap (fun i => es[i]?) = L2.map (fun p => (hashT P w p.2, Value.ref p.1)) ∧
    (is_.map fun i => (es.map (·.1)).getD i 0) = L2.map (fun p => hashT P w p.2)
  | [], _ => ⟨[], rfl, rfl, rfl⟩
  | i :: is_, lt => by
    obtain ⟨L2, rfl, e2, e3⟩ := picked L es rows is_ fun j m => lt j (List.mem_cons_of_mem _ m)
    obtain ⟨p, at_L⟩ : ∃ p, L[i]? = some p := ⟨_, List.getElem?_eq_getElem (lt i List.mem_cons_self)⟩
    have at_es : es[i]? = some (hashT P w p.2, Value.ref p.1) := by
      rw [← Array.getElem?_toList, rows, List.getElem?_map, at_L]
      rfl
    refine ⟨p :: is_.filterMap (fun i => L[i]?), List.filterMap_cons_some at_L, ?_, ?_⟩
    · rw [List.filterMap_cons_some at_es, e2]
      rfl
    · rw [List.map_cons, e3, List.map_cons, Array.getD_eq_getD_getElem?, Array.getElem?_map, at_es]
      rfl
theorem all_picked {α : Type} (L : List α) : (List.range L.length).filterMap (fun i => L[i]?) = L := by
  induction L with
  | nil => rfl
  | cons x L ih =>
    rw [List.length_cons, List.range_succ_eq_map, List.filterMap_cons_some (b := x) (by rfl), List.filterMap_map]
    exact congrArg (x :: ·) ih
/-- growing -/
theorem grow (at_a : s.heap.get? a = some o) (ex : o.ExactSet) (data : o.data = .set es ep t) (rows : es.toList = L.map fun p => (hashT P w p.2, Value.ref p.1)) (tab : TabOk t (L.map fun p => hashT P w p.2)) (once : (L.map (·.2)).Nodup) (led : w.params.followText "set-order" = true ∨ t.led = true) (few : L.length < 64)
    (fit : L.length ≤ t.mask) {wanted M : Nat} (is_M : SetTable.sizeAbove wanted - 1 = M) (ok : MaskOk M) (le : SetTable.sizeAbove wanted ≤ 128) (room : L.length * 5 < M * 3) {Q : Unit → Shared → Prop}
    (q : ∀ h' L' o' es' ep' t', Heap.SameBut a s.heap h' → SetU P w h' a L' o' es' ep' t' → L'.Perm L → Q () { s with heap := h' }) : wpAny (model P w) A (setRelay a wanted) Q E s := by
  have size : es.size = L.length := by
    have z := congrArg List.length rows
    rw [Array.length_toList, List.length_map] at z
    exact z
  have psize := tab.sz
  rw [List.length_map] at psize
  have fits : t.fits es.size = true := by
    unfold SetTable.fits SetTable.fill
    rw [tab.dm, Bool.and_eq_true, beq_iff_eq, decide_eq_true_eq]
    show t.place.size = es.size ∧ t.place.size + 0 ≤ t.mask
    omega
  obtain ⟨t', order, e, pm, T, mask, led', _, _⟩ := relaid_ok t (hs := es.map (·.1)) (wanted := wanted) is_M ok (by rw [Array.size_map]; omega)
  rw [Array.size_map, size] at pm
  obtain ⟨L2, e1, e2, e3⟩ := picked (P := P) (w := w) L es rows order.toList fun i m => List.mem_range.mp (pm.mem_iff.mp m)
  rw [e3] at T
  have perm : L2.Perm L := by
    have z := pm.filterMap (fun i => L[i]?)
    rw [e1, all_picked] at z
    exact z
  have e4 : (order.filterMap (es[·]?)).toList = L2.map (fun p => (hashT P w p.2, Value.ref p.1)) := by rw [Array.toList_filterMap]; exact e2
  have size2 : (order.filterMap (es[·]?)).size = es.size := by
    rw [← Array.length_toList, e4, List.length_map, perm.length_eq, size]
  rw [setRelay_eq]
  refine wpAny_bind (wpAny_setState_of at_a data fits ?_)
  dsimp only
  refine wp_if_neg (by rw [sizeLine_eq]; omega) ?_
  rw [e]
  dsimp only
  refine wpAny_bind (wp_if_neg (by rw [size2]; simp) (wpAny_pure ?_))
  dsimp only
  refine wpAny_storeSet_of at_a data ?_ (by rw [size2, size, sizeLine_eq]; omega)
  exact q _ L2 _ _ _ t' (Heap.SameBut.update ..) ⟨store_at at_a data, ⟨ex.1, ex.2.1, ex.2.2⟩, rfl, e4, T, (perm.map (·.2)).nodup_iff.mpr once, by rw [led']; exact led, by rw [perm.length_eq, mask]; exact room, by rw [perm.length_eq]; exact few⟩ perm
/-- set.add of a tuple -/
theorem add_tup (S : SetU P w s.heap a L o es ep t) (tups : Tups P w s.heap L) {x : Addr} {k : List Key} (is_ : IsU P w s.heap k x) (hu : A.units < cLine) (few : L.length + 1 < 64) {Q : Bool → Shared → Prop}
    (q : ∀ b h' L' o' es' ep' t', Heap.SameBut a s.heap h' → SetU P w h' a L' o' es' ep' t' → (k ∈ L.map (·.2) ∧ L' = L) ∨ (k ∉ L.map (·.2) ∧ L'.Perm ((x, k) :: L)) → Q b { s with heap := h' }) : wpAny (model P w) A (setAddHashed a (.ref x) (hashT P w k)) Q E s := by
  unfold setAddHashed
  refine wpAny_holding ?_
  rw [show (100000 : Nat) = 99999 + 1 from rfl, setAddHashedIn_succ]
  refine wpAny_bind (wpAny_setState_of S.obj S.data S.fits ?_)
  dsimp only
  refine wp_if_neg (by simp [byScan, Value.scannable]) ?_
  refine wpAny_bind (seek_all S tups is_ hu (fun m => wpAny_pure (q false s.heap L o es ep t (Heap.SameBut.refl a s.heap) S (.inl ⟨m, rfl⟩))) fun K n free full => ?_)
  refine wpAny_bind (wpAny_setState_of S.obj S.data S.fits ?_)
  dsimp only
  obtain ⟨p1, p2, p3, p4, p5, p6, p7, p8, p9⟩ := S.tab.put free full
  generalize SetTable.below t.place (way t.mask (hashT P w k) K) = j at p1 p2 p3
  have pm : (L.take j ++ (x, k) :: L.drop j).Perm ((x, k) :: L) := put_perm L j (x, k)
  have rows : (SetTable.insertAt es j (hashT P w k, Value.ref x)).toList = (L.take j ++ (x, k) :: L.drop j).map fun p => (hashT P w p.2, Value.ref p.1) := by
    rw [SetTable.toList_insertAt, S.rows, List.map_append, List.map_cons, List.map_take, List.map_drop]
  have hashes : (L.map fun p => hashT P w p.2).take j ++ hashT P w k :: (L.map fun p => hashT P w p.2).drop j = (L.take j ++ (x, k) :: L.drop j).map fun p => hashT P w p.2 := by rw [List.map_append, List.map_cons, List.map_take, List.map_drop]
  rw [hashes] at p3
  rw [List.length_map] at p9
  generalize t.put (way t.mask (hashT P w k) K) = pt at p1 p3 p4 p5 p6 p7 p8 p9 ⊢
  obtain ⟨t1, j'⟩ := pt
  dsimp only at p1 p3 p4 p5 p6 p7 p8 p9 ⊢
  subst p1
  have size := congrArg List.length rows
  rw [Array.length_toList, List.length_map, pm.length_eq, List.length_cons] at size
  have once : ((L.take j' ++ (x, k) :: L.drop j').map (·.2)).Nodup := (pm.map (·.2)).nodup_iff.mpr (by rw [List.map_cons]; exact List.nodup_cons.mpr ⟨n, S.once⟩)
  generalize SetTable.insertAt es j' (hashT P w k, Value.ref x) = es1 at rows size ⊢
  generalize L.take j' ++ (x, k) :: L.drop j' = L1 at pm rows once p3
  -- whatever the hash is carried by
  have rest : ∀ t2 : SetTable, t2.place = t1.place → t2.mask = t1.mask → t2.dummies = t1.dummies → t2.led = t1.led → wpAny (model P w) A (do storeSet a es1 t2; if (!false && t2.tooFull) = true then (do setRelay a (SetTable.grown (es.size + 1)); pure true) else pure true) Q E s := fun t2 x1 x2 x3 x4 => by
    have T2 : TabOk t2 (L1.map fun p => hashT P w p.2) := by
      refine ⟨by rw [x1]; exact p3.ris, x3.trans p3.dm, by rw [x1]; exact p3.sz, by rw [x2]; exact p3.mok, by rw [x1, x2]; exact p3.bd, ?_⟩
      rw [x1, x2]
      exact p3.reach
    have fill : t2.fill = L.length + 1 := by
      unfold SetTable.fill at p9 ⊢
      rw [x1, x3]
      exact p9
    have full_ : t2.tooFull = decide ((L.length + 1) * 5 ≥ t.mask * 3) := by
      unfold SetTable.tooFull
      rw [fill, x2, p4]
    have led2 : w.params.followText "set-order" = true ∨ t2.led = true := by rw [x4, p5]; exact S.led
    refine wpAny_bind (wpAny_storeSet_of S.obj S.data ?_ (by rw [size, sizeLine_eq]; omega))
    have sb : Heap.SameBut a s.heap (s.heap.update a (Obj.putSet es1 t2)) := Heap.SameBut.update ..
    have at_a := store_at (es' := es1) (t' := t2) S.obj S.data
    have room := S.room
    by_cases big : (L.length + 1) * 5 ≥ t.mask * 3
    · refine wp_if_pos (by rw [full_]; simpa using big) ?_
      have go : ∀ M, SetTable.sizeAbove (SetTable.grown (L.length + 1)) = M + 1 → MaskOk M → M < 128 → (L.length + 1) * 5 < M * 3 → wpAny (model P w) A (do setRelay a (SetTable.grown (es.size + 1)); pure true) Q E { s with heap := s.heap.update a (Obj.putSet es1 t2) } := fun M y1 y2 y3 y4 => by
        rw [S.size]
        refine wpAny_bind (grow (s := { s with heap := s.heap.update a (Obj.putSet es1 t2) }) (M := M) at_a ⟨S.exact_.1, S.exact_.2.1, S.exact_.2.2⟩ rfl rows T2 once led2 (by rw [pm.length_eq]; exact few) (by rw [pm.length_eq, x2, p4, List.length_cons]; rcases S.tab.mok with e | e | e <;> omega) (by omega) y2 (by omega) (by rw [pm.length_eq]; exact y4) ?_)
        exact fun h' L' o' es' ep' t' sb' S' pm' => wpAny_pure (q true h' L' o' es' ep' t' (sb.trans sb') S' (.inr ⟨n, pm'.trans pm⟩))
      rcases S.tab.mok with e | e | e
      · have l4 : L.length = 4 := by omega
        exact go 31 (by rw [l4, size_20]) (.inr (.inl rfl)) (by decide) (by omega)
      · have l18 : L.length = 18 := by omega
        exact go 127 (by rw [l18, size_76]) (.inr (.inr rfl)) (by decide) (by omega)
      · omega
    · refine wp_if_neg (by rw [full_]; simpa using big) (wpAny_pure (q true _ L1 _ es1 _ t2 sb ⟨at_a, ⟨S.exact_.1, S.exact_.2.1, S.exact_.2.2⟩, rfl, rows, T2, once, led2, ?_, by rw [pm.length_eq]; exact few⟩ (.inr ⟨n, pm⟩)))
      rw [pm.length_eq, x2, p4, List.length_cons]
      omega
  have whole : ∀ c : Bool, wpAny (model P w) A (do storeSet a es1 (if c = true then t1 else { t1 with plain := false }); if (!false && (if c = true then t1 else { t1 with plain := false }).tooFull) = true then (do setRelay a (SetTable.grown (es.size + 1)); pure true) else pure true) Q E s := fun c => by
    cases c
    · exact rest _ rfl rfl rfl rfl
    · exact rest _ rfl rfl rfl rfl
  by_cases pl : t1.plain = true
  · exact wp_if_pos pl (wpAny_bind (hashWay is_ whole))
  · exact wp_if_neg pl (wpAny_bind (wpAny_pure (whole true)))
end
end TW
set_option Elab.async false
set_option linter.all false
set_option maxRecDepth 100000
set_option maxHeartbeats 8000000
/-! set(xs) of tuples, sorted of it: tuples of any lengths, the empty one among them -/
namespace TW
open PySem PySem.Spec PyProof.Rows L2
/-! ### set(xs) -/
/-- what L has of the first i of ks -/
structure HasT (ks : List (Addr × List Key)) (i : Nat) (L : List (Addr × List Key)) : Prop where
  sub : ∀ p ∈ L, p ∈ ks.take i
  all : ∀ p ∈ ks.take i, p.2 ∈ L.map (·.2)
  le : L.length ≤ i
theorem HasT.next {ks L L' : List (Addr × List Key)} {i : Nat} {x : Addr × List Key} (h : HasT ks i L) (at_i : ks[i]? = some x) (q : (x.2 ∈ L.map (·.2) ∧ L' = L) ∨ (x.2 ∉ L.map (·.2) ∧ L'.Perm (x :: L))) : HasT ks (i + 1) L' := by
  have tk : ks.take (i + 1) = ks.take i ++ [x] := by rw [List.take_add_one, at_i]; rfl
  rcases q with ⟨m, rfl⟩ | ⟨_, pm⟩
  · refine ⟨fun p z => ?_, fun p z => ?_, Nat.le_succ_of_le h.le⟩
    · rw [tk]; exact List.mem_append_left _ (h.sub p z)
    · rw [tk, List.mem_append, List.mem_singleton] at z
      rcases z with z | rfl
      · exact h.all p z
      · exact m
  · refine ⟨fun p z => ?_, fun p z => ?_, by rw [pm.length_eq, List.length_cons]; exact Nat.succ_le_succ h.le⟩
    · rw [tk, List.mem_append, List.mem_singleton]
      rcases List.mem_cons.mp (pm.mem_iff.mp z) with rfl | z
      · exact .inr rfl
      · exact .inl (h.sub p z)
    · rw [(pm.map (·.2)).mem_iff, List.map_cons, List.mem_cons]
      rw [tk, List.mem_append, List.mem_singleton] at z
      rcases z with z | rfl
      · exact .inr (h.all p z)
      · exact .inl rfl
section
variable {P : Program} {w : World} {A : Around} {E : Value → Shared → Prop} {s : Shared}
theorem Tups.keep {h h' : Heap} {L : List (Addr × List Key)} (tups : Tups P w h L) (k : ∀ p ∈ L, ∀ o, h.get? p.1 = some o → h'.get? p.1 = some o) : Tups P w h' L := fun p m => by
  obtain ⟨o, its, n, e, r⟩ := tups p m
  exact ⟨o, its, n, k p m o e, r⟩
theorem su_update {I : Addr} {fp wr : List Addr} {G : Array GenState → Array GenState → Prop} {n : Nat} {Pv : Nat → Value → Prop} {St : Nat → Shared → Prop} {R : Result → Shared → Prop}
    (W : WalksS P w A.in1 I fp wr G n Pv St) (S : Addr) (hSf : S ∉ fp) (ks : List (Addr × List Key)) (hn : n = ks.length) (few : ks.length < 64) (hval : ∀ i v, Pv i v → ∃ p, ks[i]? = some p ∧ v = .ref p.1) (out : ∀ p ∈ ks, p.1 ∉ wr ∧ p.1 ≠ S) (hu : A.in1.units < cLine) :
    ∀ (m i : Nat) (s : Shared), n - i = m → i ≤ n → St i s → Tups P w s.heap ks → (∃ L o es ep t, SetU P w s.heap S L o es ep t ∧ HasT ks i L) →
      (∀ s' L o es ep t, Moved (S :: wr) G s s' → SetU P w s'.heap S L o es ep t → HasT ks n L → R (.ok (.ret .none)) s') → codeAny (model P w) A (.builtin "set.update.loop" ⟨[.ref S, .ref I], []⟩) R s := by
  have nw : S ∉ wr := fun h => hSf (W.sub _ h)
  have sb : ∀ b ∈ wr, b ∈ S :: wr := fun b hb => List.mem_cons_of_mem _ hb
  intro m
  induction m with
  | zero =>
    intro i s hm hi hst tups ⟨L, o, es, ep, t, S0, has⟩ hR
    obtain rfl : i = n := by omega
    refine codeAny_builtin F.entry_set_update_loop ?_
    rw [Around.under_plainId F.plain_set_update_loop _]
    show wpAny _ A.in1 (pyNext (.ref I) >>= _) _ _ s
    refine wpAny_bind (W.done s _ _ hst fun s' mv => ?_)
    exact wpAny_pure (hR s' L o es ep t (mv.mono sb) ⟨mv.heap S _ nw S0.obj, S0.exact_, S0.data, S0.rows, S0.tab, S0.once, S0.led, S0.room, S0.few⟩ has)
  | succ m ih =>
    intro i s hm hi hst tups ⟨L, o, es, ep, t, S0, has⟩ hR
    have lt : i < n := by omega
    refine codeAny_builtin F.entry_set_update_loop ?_
    rw [Around.under_plainId F.plain_set_update_loop _]
    show wpAny _ A.in1 (pyNext (.ref I) >>= _) _ _ s
    refine wpAny_bind (W.item i s _ _ lt hst fun v s' hP st' mv => ?_)
    obtain ⟨p, at_i, rfl⟩ := hval i v hP
    have S1 : SetU P w s'.heap S L o es ep t := ⟨mv.heap S _ nw S0.obj, S0.exact_, S0.data, S0.rows, S0.tab, S0.once, S0.led, S0.room, S0.few⟩
    have tups1 : Tups P w s'.heap ks := tups.keep fun p m o e => mv.heap p.1 o (out p m).1 e
    have is_ := tups1 p (List.mem_of_getElem? at_i)
    show wpAny _ A.in1 (holding [Value.ref p.1] (setAdd S (.ref p.1)) >>= _) _ _ s'
    refine wpAny_bind (wpAny_holding ?_)
    unfold setAdd
    refine wpAny_holding (wpAny_bind (wpAny_pyHash_tuple hu is_ ?_))
    have sub : ∀ q ∈ L, q ∈ ks := fun q m => List.mem_of_mem_take (has.sub q m)
    refine add_tup (s := { s' with toks := s'.toks + (p.2.length + 1) }) S1 (fun q m => tups1 q (sub q m)) is_ hu (by have := has.le; omega) fun b h' L' o' es' ep' t' sbt S2 cases_ => ?_
    refine wpAny_pure ⟨plainId_quiet F.plain_set_update_loop _, ih (i + 1) _ (by omega) lt (W.frame _ s' _ _ st' (Nat.le_add_right _ _) fun b hb o e => ?_) (tups1.keep fun q m o e => (sbt.2 q.1 (out q m).2).trans e) ⟨L', o', es', ep', t', S2, has.next at_i cases_⟩ fun s2 L2 o2 es2 ep2 t2 mv2 S3 has2 => ?_⟩
    · rw [sbt.2 b (fun h : b = S => hSf (h ▸ hb))]; exact e
    · refine hR s2 L2 o2 es2 ep2 t2 (Moved.trans W.gtrans ((mv.mono sb).then_heap (Nat.le_add_right _ _) fun b o hb e => ?_) mv2) S3 has2
      rw [sbt.2 b (fun h : b = S => hb (h ▸ List.mem_cons_self))]; exact e
theorem su_new {h : Heap} {a : Addr} (ho : h.get? a = some (emptyS w)) : SetU P w h a [] (emptyS w) #[] 0 (.fresh 0 0 (!w.params.followText "set-order")) where
  obj := ho
  exact_ := ⟨rfl, rfl, rfl⟩
  data := rfl
  rows := rfl
  tab := ⟨List.Pairwise.nil, rfl, rfl, .inl rfl, fun x hx => (nomatch hx), fun i h j hi => (nomatch hi)⟩
  once := List.nodup_nil
  led := by
    show _ ∨ (!w.params.followText "set-order") = true
    cases w.params.followText "set-order" <;> simp
  room := by show 0 * 5 < 7 * 3; decide
  few := by show 0 < 64; decide
theorem call_set_tuples {l : Addr} {items : Array Value} (ks : List (Addr × List Key)) {Q : Value → Shared → Prop} (hh : A.handled = none) (hl : s.heap.IsList l items) (hit : items.toList = ks.map fun p => Value.ref p.1) (tups : Tups P w s.heap ks) (few : ks.length < 64) (hu : A.units + 3 < cLine)
    (h : ∀ (h' : Heap) (tk : Nat) L o es ep t, SetU P w h' s.heap.objs.size L o es ep t → HasT ks ks.length L → (∀ b o, s.heap.get? b = some o → h'.get? b = some o) → Q (.ref s.heap.objs.size) { s with heap := h', toks := tk }) :
    wpAny (model P w) A (call (.type "set") [.ref l]) Q E s := by
  have size : items.size = ks.length := by
    have z := congrArg List.length hit
    rw [Array.length_toList, List.length_map] at z
    exact z
  have hS : (s.heap.push (emptyS w)).get? s.heap.objs.size = some (emptyS w) := Heap.get?_push_size _ rfl
  refine call_set1 (set_init hS ?_)
  have hh3 : A.in1.in1.in1.handled = none := by simp [hh]
  have hz1 : (s.heap.push (emptyS w)).objs.size = s.heap.objs.size + 1 := Heap.size_push ..
  have hl1 : (s.heap.push (emptyS w)).IsList l items := hl.push _
  obtain ⟨ol, hol, hcl, _⟩ := id hl
  have hlS : l < s.heap.objs.size := Heap.lt_size hol
  have hneI : l ≠ (s.heap.push (emptyS w)).objs.size := by rw [hz1]; exact Nat.ne_of_lt (Nat.lt_succ_of_lt hlS)
  have old : ∀ p ∈ ks, p.1 < s.heap.objs.size := fun p m => by
    obtain ⟨o, its, n, e, _⟩ := tups p m
    exact Heap.lt_size e
  refine upd_seq (T := "list") ⟨ol, Heap.get?_push_of_some _ hol, hcl⟩ F.sub_list_set F.sub_list_frozenset (by decide) (wpAny_pyIter_list hl1 (wpAny_runValue ?_))
  refine su_update ((Walks.list hh3 _ l hneI items).toS) s.heap.objs.size (by rw [hz1]; exact nin2 (Nat.ne_of_lt (Nat.lt_succ_self _)) (Nat.ne_of_gt hlS)) ks size few (fun i v hv => ?_) (fun p m => ⟨?_, Nat.ne_of_lt (old p m)⟩) hu (items.size - 0) 0 _ (by omega) (Nat.zero_le _)
    ⟨⟨_, Heap.get?_push_size _ rfl, rfl, rfl⟩, (hl1.push _)⟩ (tups.keep fun p _ o e => Heap.get?_push_of_some _ (Heap.get?_push_of_some _ e)) ⟨[], _, #[], 0, _, su_new (Heap.get?_push_of_some _ hS), ⟨fun p z => (nomatch z), fun p z => (nomatch z), Nat.le_refl _⟩⟩ ?_
  · have z : items.toList[i]? = some v := by rw [Array.getElem?_toList]; exact hv
    rw [hit, List.getElem?_map] at z
    obtain ⟨p, e, rfl⟩ := Option.map_eq_some_iff.mp z
    exact ⟨p, e, rfl⟩
  · rw [hz1]
    intro z
    have z1 : p.1 = s.heap.objs.size + 1 := List.mem_singleton.mp z
    have z2 := old p m
    rw [z1] at z2
    exact absurd z2 (Nat.not_lt.mpr (Nat.le_succ _))
  · intro s' L o es ep t mv S0 has
    obtain ⟨h', g2, d', tk', os'⟩ := s'
    obtain rfl : g2 = s.gens := mv.gens
    obtain rfl : d' = s.drawn := mv.drawn
    obtain rfl : os' = s.os := mv.os
    rw [size] at has
    refine ⟨rfl, h h' tk' L o es ep t S0 has fun b o e => ?_⟩
    have hb0 : b < s.heap.objs.size := Heap.lt_size e
    exact mv.heap b o (nin2 (Nat.ne_of_lt hb0) (by rw [hz1]; exact Nat.ne_of_lt (Nat.lt_succ_of_lt hb0))) (Heap.get?_push_of_some _ (Heap.get?_push_of_some _ e))
end
/-- the set of these tuples at a -/
def SetUO (P : Program) (w : World) (a : Addr) (L : List (Addr × List Key)) : HO := .ext fun h => ∃ o es ep t, SetU P w h a L o es ep t
theorem setUO_ok {P : Program} {w : World} {H : Hp} {h : Heap} {a : Addr} {L : List (Addr × List Key)} {o : Obj} {es : Array (Int × Value)} {ep : Nat} {t : SetTable} (S : SetU P w h a L o es ep t) : ObjOk P w H h a (SetUO P w a L) :=
  ⟨⟨o, es, ep, t, S⟩, ⟨o, S.obj⟩, fun h1 h2 ⟨o, es, ep, t, S⟩ k => ⟨o, es, ep, t, k o S.obj, S.exact_, S.data, S.rows, S.tab, S.once, S.led, S.room, S.few⟩⟩
theorem items_vals {P : Program} {w : World} : ∀ {k : List Key} {us : List Value}, Vals (k.map kV) us → ItemsAre (mixKind P w) k us
  | [], _, .nil => .nil
  | n :: k, _, .cons r t => .cons (relV_key r) (items_vals t)
theorem refs_vals : ∀ {ks : List (Addr × List Key)} {us : List Value}, Vals (ks.map fun p => V.ref p.1) us → us = ks.map fun p => Value.ref p.1
  | [], _, .nil => rfl
  | p :: ks, _, .cons r t => by
    cases r
    rw [refs_vals t]
    rfl
theorem vals_refs' : ∀ (ks : List (Addr × List Key)), Vals (ks.map fun p => V.ref p.1) (ks.map fun p => Value.ref p.1)
  | [] => .nil
  | p :: ks => .cons rfl (vals_refs' ks)
section
variable {X : Cx}
theorem isU_of {pins : List (Addr × Obj)} {σ : L2.St} {H : Hp} {s : Shared} {b : Addr} {k : List Key} (I : Inv X pins σ H s) (h : SqT X.K H b (k.map kV)) : IsU X.prog X.w s.heap k b := by
  obtain ⟨its, r, ⟨o, ho, hc, n, hd⟩, _⟩ := I.tuple h
  exact ⟨o, its.toArray, n, ho, hc, hd, by simpa using items_vals r⟩
/-- set(xs), xs a list of tuples of ints and texts -/
def rSetU (K : PySem.W.Frag) (P : Program) (w : World) : List V → Hp → VK → Prop := fun xs H Q => ∃ (l : Addr) (ks : List (Addr × List Key)), xs = [V.ref l] ∧ SqL K H l (ks.map fun p => V.ref p.1) ∧ (∀ p ∈ ks, SqT K H p.1 (p.2.map kV)) ∧ ks.length < 64 ∧
  ∀ a L, H a = none → (∀ p ∈ L, p ∈ ks) → (∀ p ∈ ks, p.2 ∈ L.map (·.2)) → (L.map (·.2)).Nodup → L.length ≤ ks.length → Q (.ref a) (upd H a (SetUO P w a L))
theorem cr_setU (hu : X.A.units + 3 < cLine) (hc : X.calm = true := by rfl) : CallR X (.type "set") (rSetU X.K X.prog X.w) := by
  intro pins s σ H xs us Q I r h
  obtain ⟨l, ks, rfl, hl, hk, few, q⟩ := h
  rw [Vals.ref1 r]
  obtain ⟨its, rv, pl, hz⟩ := I.list hl
  refine call_set_tuples (P := X.prog) (w := X.w) ks (I.ok.hd hc) pl.isList (by simpa using refs_vals rv) (fun p m => isU_of I (hk p m)) few hu fun h' tk L o es ep t S has k => ?_
  refine ⟨.ref s.heap.objs.size, _, I.laid (t' := tk) k (Nat.le_refl _) (setUO_ok S), rfl, q _ L (I.hok.fresh (Nat.le_refl _)) (fun p m => List.mem_of_mem_take (has.sub p m)) (fun p m => has.all p (by rw [List.take_length]; exact m)) S.once has.le⟩
end
end TW
/-! ### sorted of tuples, the empty one among them -/
namespace TW
open PySem PySem.Spec PyProof.Rows L2 PySem.W PySem.SeqAt
section
variable {prog : Program} {w : World} {A : Around} {E : Value → Shared → Prop} {s : Shared}
def nonE : PyData → Bool
  | .tuple (_ :: _) => true
  | _ => false
/-- a tuple against another as a sort of one type compares -/
theorem oneLt_tups {f : Bool} {xs ys : List PyData} {a b : Value} {as bs : List Addr} {Q : Bool → Shared → Prop} (ra : Reads s.heap a (.tuple xs) as) (rb : Reads s.heap b (.tuple ys) bs) (like : alike (.tuple xs) (.tuple ys) = true)
    (hu : A.units + min (PyData.tuple xs).depth (PyData.tuple ys).depth < cLine) (hq : Q (dataLt (.tuple xs) (.tuple ys)) s) : wpAny (model prog w) A (oneLt' f a b) Q E s := by
  cases f with
  | false => exact oneLt_alike (fun z => nomatch z) ra rb like (fun z => nomatch z) hu hq
  | true =>
    have al : alikeAll xs ys = true := by simpa [alike] using like
    cases ra with
    | @tuple l o vs n _ as₁ h1 h2 h3 h4 =>
      cases rb with
      | @tuple l' o' vs' n' _ bs₁ k1 k2 k3 k4 =>
        have n1 : vs.size = xs.length := by simpa using PySem.SeqAt.ReadsAll.length _ _ _ h4
        have n2 : vs'.size = ys.length := by simpa using PySem.SeqAt.ReadsAll.length _ _ _ k4
        rw [dataLt_tuple, ← firstLt_toks xs ys al, ← n1, ← n2] at hq
        obtain ⟨cls, dd, data, sl⟩ := o
        obtain ⟨cls2, dd2, data2, sl2⟩ := o'
        simp only at h2 h3 k2 k3
        subst h2 h3 k2 k3
        rw [oneLt'_eq]
        simp only [if_true]
        have here : A.units < cLine := by omega
        refine wpAny_bind (wpAny_cRoomFor here ?_)
        refine wpAny_bind (wpAny_callSpecialIfBound?_slot (T := "tuple") ⟨_, h1, rfl⟩ F.slot_tuple_lt (call_meets F.slot_tuple_lt ⟨_, h1, rfl⟩ F.entry_tuple_lt (F.args_tuple_lt_2 _ _) (tuple_ltAt l l' vs vs' n n' dd dd2 sl sl2 (pairEq xs ys) fun j => dataLt (xs.getD j .none) (ys.getD j .none))
          ⟨h1, k1, fun j j1 j2 => ?_, fun j j1 j2 hj => ?_, ?_⟩))
        · have := eqAt_alikeAll xs ys A.in1 s vs.toList vs'.toList _ _ h4 k4 al (SeqAt.room_in hu) j (by simpa using j1) (by simpa using j2)
          simpa using this
        · have := rcLt_alikeAll xs ys A.in1 s vs.toList vs'.toList _ _ h4 k4 al (SeqAt.room_in hu) j (by simpa using j1) (by simpa using j2) hj
          simpa using this
        · exact wpAny_truthy_bool hq
theorem firsts_of : ∀ {vs : List Value} {ds : List PyData}, EachIs (fun v d => ∃ as, Reads s.heap v d as) vs ds → (∀ d ∈ ds, ∃ xs, d = .tuple xs) → ∃ fs : List (Option Value), fs.map (·.isSome) = ds.map nonE ∧ ∀ {Q : List (Option Value) → Shared → Prop}, Q fs s → wpAny (model prog w) A (vs.mapM firstOfTuple') Q E s
  | _, _, .nil, _ => ⟨[], rfl, fun q => by rw [List.mapM_nil]; exact wpAny_pure q⟩
  | _, _, .cons (b := d) ⟨as, r⟩ t, tup => by
    obtain ⟨fs, e, go⟩ := firsts_of t fun d m => tup d (List.mem_cons_of_mem _ m)
    obtain ⟨xs, rfl⟩ := tup d List.mem_cons_self
    cases r with
    | @tuple a o vs n _ _ ho hc hd hr =>
      refine ⟨vs[0]? :: fs, ?_, fun {Q} q => ?_⟩
      · rw [List.map_cons, List.map_cons, e]
        have z : (vs[0]?).isSome = nonE (.tuple xs) := by
          rw [← Array.getElem?_toList]
          generalize vs.toList = l at hr
          cases hr <;> rfl
        rw [z]
      · rw [List.mapM_cons]
        refine wpAny_bind ?_
        rw [kas_first_eq]
        refine wpAny_bind (Looks.here (show Looks (model prog w) s.heap (typeOf (.ref a)) o.cls from (Looks.ld ho).andThen .now) ?_)
        rw [hc, if_neg (by simp)]
        exact wpAny_bind (listItems_at ho hd (wpAny_pure (wpAny_bind (go (Q := fun bs s' => wpAny (model prog w) A (pure (vs[0]? :: bs)) Q E s') (wpAny_pure q)))))
theorem kind_tups {vs : List Value} {ds : List PyData} {Q : SortKind → Shared → Prop} (e : EachIs (fun v d => ∃ as, Reads s.heap v d as) vs ds) (tup : ∀ d ∈ ds, ∃ xs, d = .tuple xs) (none_ : ds.all nonE = false)
    (q : Q (if (ds.head?.map nonE) = some true then general' else oneType') s) : wpAny (model prog w) A (keyKind' vs.toArray) Q E s := by
  obtain ⟨fs, e1, go⟩ := firsts_of (A := A) (E := E) (prog := prog) (w := w) e tup
  rw [kat_kind_eq, List.mapM_toArray, map_eq_pure_bind]
  refine wpAny_bind (wpAny_bind (go (wpAny_pure ?_)))
  have all_ : (fs.toArray.all fun x => x.isSome) = false := by
    rw [List.all_toArray, ← none_]
    have z : (fs.map (·.isSome)).all id = (ds.map nonE).all id := by rw [e1]
    rw [List.all_map, List.all_map] at z
    exact z
  rw [all_]
  simp only [Bool.false_eq_true, if_false]
  have head_ : (fs.toArray[0]?.bind id).isSome = decide ((ds.head?.map nonE) = some true) := by
    cases fs with
    | nil =>
      cases ds with
      | nil => rfl
      | cons d ds => exact nomatch e1
    | cons f fs =>
      cases ds with
      | nil => exact nomatch e1
      | cons d ds =>
        rw [List.map_cons, List.map_cons] at e1
        have z := (List.cons.inj e1).1
        show f.isSome = _
        rw [z]
        simp
  rw [head_]
  by_cases c : (ds.head?.map nonE) = some true
  · rw [if_pos c] at q
    simp only [c, decide_true, if_true]
    exact wpAny_pure q
  · rw [if_neg c] at q
    simp only [c, decide_false, Bool.false_eq_true, if_false]
    rw [oneTypeOnly'_eq, List.mapM_toArray, map_eq_pure_bind]
    have types : ∀ v ∈ vs, Looks (model prog w) s.heap (typeOf v) (.type "tuple") := fun v m => by
      obtain ⟨d, m2, as, r⟩ := e.left v m
      obtain ⟨xs, rfl⟩ := tup d m2
      exact looks_reads r
    refine wpAny_bind (wpAny_bind (wpAny_bind (kas_mapM (r := Value.type "tuple") _ (fun v m Q' q' => (types v m).here q') (wpAny_pure ?_))))
    have hall : ((List.map (fun _ => Value.type "tuple") vs).toArray.all fun x => x == Value.type "tuple") = true := by
      simp only [List.all_toArray, List.all_map, List.all_eq_true]
      intro _ _
      exact beq_self_eq_true _
    cases vs with
    | nil =>
      cases e
      exact absurd none_ (by simp)
    | cons v vs =>
      have h0 : (List.map (fun _ => Value.type "tuple") (v :: vs)).toArray[0]? = some (Value.type "tuple") := by simp
      rw [h0]
      simp only [hall, if_true]
      exact wpAny_pure (wpAny_pure q)
/-- alike tuples can be sorted -/
theorem sorts_tups {vs : List Value} {ds : List PyData} (e : EachIs (fun v d => ∃ as, Reads s.heap v d as) vs ds) (al : AllAlike ds) (tup : ∀ d ∈ ds, ∃ xs, d = .tuple xs) (hu : ∀ d, d ∈ ds → A.units + d.depth < cLine) : SortsAt prog w A s (dataKind s.heap ds) vs := by
  cases c : ds.all nonE with
  | true =>
    refine SortsAt.data e al (.inl fun d m => ?_) hu
    have z := List.all_eq_true.mp c d m
    obtain ⟨xs, rfl⟩ := tup d m
    cases xs with
    | nil => exact absurd z (by simp [nonE])
    | cons x r => exact ⟨x, r, rfl⟩
  | false =>
    refine ⟨fun v hv => ?_, if (ds.head?.map nonE) = some true then general' else oneType', ?_, fun _ E Q q => kind_tups e tup c q⟩
    · obtain ⟨d, hd, as, r⟩ := e.left v hv
      exact ⟨_, dataKind_some al hd r⟩
    · intro E x y a b Q ha hb hq
      obtain ⟨d, as, hd, ra, rfl⟩ := dataKind_inv ha
      obtain ⟨d', as', hd', rb, rfl⟩ := dataKind_inv hb
      have like := al d hd d' hd'
      have room : A.units + min d.depth d'.depth < cLine := Nat.lt_of_le_of_lt (Nat.add_le_add_left (Nat.min_le_left _ _) _) (hu d hd)
      obtain ⟨xs, rfl⟩ := tup d hd
      obtain ⟨ys, rfl⟩ := tup d' hd'
      by_cases z : (ds.head?.map nonE) = some true
      · rw [if_pos z]
        exact oneLt_tups (f := false) ra rb like room hq
      · rw [if_neg z]
        exact oneLt_tups (f := true) ra rb like room hq
end
end TW
namespace TW
open PySem PySem.Spec PyProof.Rows L2 PySem.W
def encKey : Key → PyData
  | .inl i => .int i
  | .inr x => .str x
def encT (k : List Key) : PyData := .tuple (k.map encKey)
theorem depth_keys : ∀ (k : List Key), PyData.depthAll (k.map encKey) = 0
  | [] => rfl
  | .inl i :: k => by simp [PyData.depthAll, encKey, PyData.depth, depth_keys k]
  | .inr x :: k => by simp [PyData.depthAll, encKey, PyData.depth, depth_keys k]
theorem depth_encT (k : List Key) : (encT k).depth ≤ 1 := by
  unfold encT
  simp only [PyData.depth, depth_keys k]
  omega
theorem reads_keys {P : Program} {w : World} {h : Heap} : ∀ {k : List Key} {vs : List Value}, ItemsAre (mixKind P w) k vs → ∃ as, ReadsAll h vs (k.map encKey) as
  | _, _, .nil => ⟨_, .nil⟩
  | _, _, .cons q t => by
    obtain ⟨as, r⟩ := reads_keys (h := h) t
    rcases keyIs_shape q with ⟨j, tk, rfl, rfl⟩ | ⟨x, tk, rfl, rfl⟩
    · exact ⟨_, .cons (.int _ _) r⟩
    · exact ⟨_, .cons (.str _ _) r⟩
theorem reads_tup {P : Program} {w : World} {h : Heap} {k : List Key} {a : Addr} (is_ : IsU P w h k a) : ∃ as, Reads h (.ref a) (encT k) as := by
  obtain ⟨o, its, n, e, c, d, r⟩ := is_
  obtain ⟨as, r⟩ := reads_keys (h := h) r
  exact ⟨_, .tuple e c d r⟩
section
variable {P : Program} {w : World} {A : Around} {E : Value → Shared → Prop} {s : Shared}
theorem sorted_su {a : Addr} {L : List (Addr × List Key)} {o : Obj} {es : Array (Int × Value)} {ep : Nat} {t : SetTable} {Q : Value → Shared → Prop} (S : SetU P w s.heap a L o es ep t) (tups : Tups P w s.heap L) (al : ∀ p ∈ L, ∀ q ∈ L, alike (encT p.2) (encT q.2) = true) (hh : A.handled = none) (hu : A.units + 8 < cLine)
    (hQ : ∀ s' p (out : List Value) (c : Nat) (L1 : List (Addr × List Key)), (∀ b o, s.heap.get? b = some o → s'.heap.get? b = some o) → s'.gens = s.gens → s'.os = s.os → s.heap.objs.size ≤ p → s'.heap.get? p = some (seqObj "list" out.toArray c) → L1.Perm L →
      out = (L1.mergeSort (dataLe false fun p => encT p.2)).map (fun p => Value.ref p.1) → Q (.ref p) s') : wpAny (model P w) A (call (.builtin "sorted") [.ref a]) Q E s := by
  refine Calls.call_function_entry kind_sorted plain_sorted entry_sorted (args_sorted1 _) ?_
  unfold Builtin.«sorted»
  refine wpAny_bind (m := checkCount "sorted" 1 1 _) (wpAny_pure ?_)
  have size := S.size
  have few := S.few
  refine wpAny_bind (collect_set (A := A.in1) hh ⟨o, S.obj, S.exact_.1, S.data⟩ S.fits (by unfold scanBound; omega) S.tab.ris S.led fun s1 vs k1 hz g1 o1 pm => ?_)
  have same : es.toList.map (·.2) = L.map fun p => Value.ref p.1 := by rw [S.rows, List.map_map]; rfl
  rw [same] at pm
  obtain ⟨L1, perm, rfl⟩ := perm_lift (fun p : Addr × List Key => Value.ref p.1) pm L rfl
  have len : (L1.map fun p => Value.ref p.1).length ≤ sizeLine := by rw [List.length_map, perm.length_eq, sizeLine_eq]; omega
  refine wpAny_bind (wpAny_newList ?_ len)
  generalize hvs : L1.map (fun p => Value.ref p.1) = vs at len ⊢
  have hoL : (s1.heap.push (seqObj "list" vs.toArray 0)).get? s1.heap.objs.size = some (seqObj "list" vs.toArray 0) := Heap.get?_push_size _ rfl
  have there : ∀ p ∈ L1, IsU P w (sortingHeap (s1.heap.push (seqObj "list" vs.toArray 0)) s1.heap.objs.size vs) p.2 p.1 := fun p m => by
    obtain ⟨o', its, n, e, r⟩ := tups p (perm.mem_iff.mp m)
    have e1 := k1 _ _ e
    exact ⟨o', its, n, sortingHeap_old (Nat.ne_of_lt (Heap.lt_size e1)) (Heap.get?_push_of_some _ e1), r⟩
  have er : ∀ {l : List (Addr × List Key)}, (∀ p ∈ l, p ∈ L1) → EachIs (fun u (p : Addr × List Key) => ∃ as, Reads (sortingHeap (s1.heap.push (seqObj "list" vs.toArray 0)) s1.heap.objs.size vs) u (encT p.2) as) (l.map fun p => Value.ref p.1) l := by
    intro l
    induction l with
    | nil => exact fun _ => .nil
    | cons p l ih => exact fun z => .cons (reads_tup (there p (z p List.mem_cons_self))) (ih fun q m => z q (List.mem_cons_of_mem _ m))
  have er1 := er (l := L1) fun p m => m
  rw [hvs] at er1
  have ek : ∀ l : List (Addr × List Key), EachIs (fun u (p : Addr × List Key) => u = Value.ref p.1) (l.map fun p => Value.ref p.1) l := by
    intro l
    induction l with
    | nil => exact .nil
    | cons p l ih => exact .cons rfl ih
  have ek1 := ek L1
  rw [hvs] at ek1
  have alL : AllAlike (L1.map fun p => encT p.2) := fun d m d' m' => by
    obtain ⟨p, mp, rfl⟩ := List.mem_map.mp m
    obtain ⟨q, mq, rfl⟩ := List.mem_map.mp m'
    exact al p (perm.mem_iff.mp mp) q (perm.mem_iff.mp mq)
  refine wpAny_bind (wpAny_holding (wpAny_call_entry slot_list_sort ⟨_, hoL, rfl⟩ entry_list_sort (list_sort_vals (s := { s1 with heap := s1.heap.push (seqObj "list" vs.toArray 0) }) hoL
    (sorts_tups (s := { s1 with heap := sortingHeap (s1.heap.push (seqObj "list" vs.toArray 0)) s1.heap.objs.size vs }) (each_map (R := fun v d => ∃ as, Reads (sortingHeap (s1.heap.push (seqObj "list" vs.toArray 0)) s1.heap.objs.size vs) v d as) (fun p : Addr × List Key => encT p.2) er1)
      alL (fun d m => ?_) fun d m => ?_) len ⟨_, rfl, ?_⟩) (args_list_sort _)))
  · obtain ⟨p, _, rfl⟩ := List.mem_map.mp m
    exact ⟨_, rfl⟩
  · obtain ⟨p, _, rfl⟩ := List.mem_map.mp m
    have z := depth_encT p.2
    have z2 : A.in1.in1.units = A.units + 2 := by simp [Around.in1]
    omega
  · obtain ⟨c, hc⟩ := sortedHeap_at (vs := vs) (out := (sortVals (dataKind (sortingHeap (s1.heap.push (seqObj "list" vs.toArray 0)) s1.heap.objs.size vs) (L1.map fun p => encT p.2)) false vs vs).toArray) hoL
    have out_is : ∀ {us : List Value} {l : List (Addr × List Key)}, EachIs (fun u (p : Addr × List Key) => u = Value.ref p.1) us l → us = l.map fun p => Value.ref p.1 := by
      intro us l z
      induction z with
      | nil => rfl
      | cons h _ ih => rw [h, ih]; rfl
    refine wpAny_pure ⟨_, rfl, hQ _ s1.heap.objs.size _ c L1 (fun b u e => ?_) g1 o1 hz hc perm (out_is (sortVals_data (enc := fun p : Addr × List Key => encT p.2) false ek1 er1 alL))⟩
    have q := k1 b u e
    show (sortedHeap (s1.heap.push (seqObj "list" vs.toArray 0)) s1.heap.objs.size vs _).get? b = some u
    rw [sortedHeap_old (Nat.ne_of_lt (Heap.lt_size q)) (by rw [size_push']; exact Nat.lt_succ_of_lt (Heap.lt_size q))]
    exact Heap.get?_push_of_some _ q
end
section
variable {X : Cx}
/-- sorted(s), s a set of tuples that can be compared -/
def rSortedU (K : PySem.W.Frag) (P : Program) (w : World) : List V → Hp → VK → Prop := fun vs H Q => ∃ (a : Addr) (L : List (Addr × List Key)), vs = [V.ref a] ∧ H a = some (SetUO P w a L) ∧ (∀ p ∈ L, SqT K H p.1 (p.2.map kV)) ∧ (∀ p ∈ L, ∀ q ∈ L, alike (encT p.2) (encT q.2) = true) ∧
  ∀ (L1 : List (Addr × List Key)) (p : Addr), L1.Perm L → H p = none → Q (.ref p) (upd H p (.lst ((L1.mergeSort (dataLe false fun p => encT p.2)).map fun q => V.ref q.1)))
theorem cr_sortedU (hu : X.A.units + 8 < cLine) (hc : X.calm = true := by rfl) : CallR X (.builtin "sorted") (rSortedU X.K X.prog X.w) := by
  intro pins s σ H vs us Q I r h
  obtain ⟨a, L, rfl, ha, hk, al, q⟩ := h
  obtain ⟨o, es, ep, t, S⟩ := (I.hok a _ ha).1
  rw [Vals.ref1 r]
  refine sorted_su S (fun p m => isU_of I (hk p m)) al (I.ok.hd hc) hu fun s' p out c L1 k1 g1 o1 hp hc perm e => ?_
  have few := S.few
  have len : ((L1.mergeSort (dataLe false fun p : Addr × List Key => encT p.2)).map fun q => V.ref q.1).length ≤ sizeLine := by rw [List.length_map, List.length_mergeSort, perm.length_eq, sizeLine_eq]; omega
  obtain ⟨I2, hn⟩ := laid_new I (o := .lst ((L1.mergeSort (dataLe false fun p : Addr × List Key => encT p.2)).map fun q => V.ref q.1)) k1 g1 o1 hp ⟨len, out, c, by rw [e]; exact vals_refs' _, hc⟩
  exact ⟨.ref p, _, I2, rfl, q L1 p perm hn⟩
end
end TW
set_option Elab.async false
set_option linter.all false
set_option maxRecDepth 100000
set_option maxHeartbeats 8000000
/-! dicts with keys (i, (a, b, ..)): the keys a pair of an int or text and a tuple of such -/
namespace TW
open PySem PySem.Spec PyProof.Rows L2
abbrev NKey := Key × List Key
/-- the pair k at a -/
def IsN (P : Program) (w : World) (h : Heap) (k : NKey) (a : Addr) : Prop := ∃ o v b n, h.get? a = some o ∧ o.cls = .type "tuple" ∧ o.data = .seq #[v, .ref b] n ∧ keyIs k.1 v = true ∧ IsU P w h k.2 b
def hashN (P : Program) (w : World) (k : NKey) : Int := reduceHash (Builtin.Tuple.tupleHashOf [keyH w k.1, hashT P w k.2])
section
variable {P : Program} {w : World} {A : Around} {E : Value → Shared → Prop} {s : Shared}
theorem IsN.typeIs {k : NKey} {a : Addr} (x : IsN P w s.heap k a) : s.TypeIs (.ref a) "tuple" := let ⟨o, _, _, _, ho, hc, _⟩ := x; ⟨o, ho, hc⟩
theorem IsN.inj {h : Heap} {a : Addr} {x y : NKey} (hx : IsN P w h x a) (hy : IsN P w h y a) : x = y := by
  obtain ⟨o, v, b, n, e, _, d, k1, k2⟩ := hx
  obtain ⟨o', v', b', n', e', _, d', k1', k2'⟩ := hy
  cases e.symm.trans e'
  rw [d] at d'
  injection d' with z _
  injection z with z
  injection z with z1 z2
  injection z2 with z2 _
  injection z2 with z2
  subst z1 z2
  exact Prod.ext ((mixKind P w).inj v _ _ k1 k1') (k2.inj k2')
theorem IsN.keeps {h h' : Heap} {k : NKey} {a d : Addr} {o : Obj} {es : Array DictEntry} {ep : Nat} (x : IsN P w h k a) (ho : h.get? d = some o) (hd : o.data = .dict es ep) (hs : Heap.SameBut d h h') : IsN P w h' k a := by
  obtain ⟨o', v, b, n, e, c, d', k1, k2⟩ := x
  refine ⟨o', v, b, n, (hs.2 a fun z => ?_).trans e, c, d', k1, k2.keeps ho hd hs⟩
  subst z
  cases e.symm.trans ho
  exact nomatch d'.symm.trans hd
theorem hash_pair {k : NKey} {a : Addr} {Q : Int → Shared → Prop} (hu : A.units + 1 < cLine) (x : IsN P w s.heap k a) (h : Q (hashN P w k) { s with toks := s.toks + (k.2.length + 3) }) : wpAny (model P w) A (pyHash (.ref a)) Q E s := by
  have hT := x.typeIs
  obtain ⟨o, v, b, n, ho, _, hd, k1, k2⟩ := x
  unfold pyHash
  first | unfold pyHashByItsType | skip
  first | refine wpAny_bind (wpAny_cRoomFor_or (.inr (by omega)) ?_) | skip
  refine wpAny_bind (wpAny_specialOf hT F.slot_tuple_hash.lookup ?_)
  show wpAny _ _ (if (some (Value.builtin "tuple.__hash__") == some Value.none) = true then _ else _) Q E s
  rw [if_neg (by rw [beq_builtin_none]; exact Bool.false_ne_true)]
  refine wpAny_bind (wpAny_specialOf hT F.slot_tuple_hash.lookup ?_)
  show wpAny _ _ (callSpecialIfBoundUnlessNone? (.ref a) "__hash__" _ >>= _) Q E s
  refine wpAny_bind (wpAny_callSpecialIfBoundUnlessNone?_slot hT F.slot_tuple_hash (wpAny_call_entry F.slot_tuple_hash hT F.entry_tuple_hash ?_ (F.args_tuple_hash_1 _)))
  show wpAny _ _ (Builtin.Tuple.tupleItemsOf (.ref a) >>= _) _ _ s
  refine wpAny_bind (wpAny_tupleItemsOf ho hd (wpAny_bind ?_))
  rw [← Array.forIn_toList]
  show wpAny _ _ (forIn [v, Value.ref b] _ _) _ _ s
  rw [List.forIn_cons]
  have hu' : A.in1.units < cLine := by simpa [Around.in1] using hu
  refine wpAny_bind (wpAny_bind ((mixKind P w).pyHash (k := k.1) k1 (wpAny_pure ?_)))
  dsimp only
  rw [List.forIn_cons]
  refine wpAny_bind (wpAny_bind (wpAny_pyHash_tuple hu' k2 (wpAny_pure ?_)))
  dsimp only
  rw [List.forIn_nil]
  refine wpAny_pure ?_
  show wpAny _ _ (retInt (Builtin.Tuple.tupleHashOf [keyH w k.1, hashT P w k.2])) _ _ _
  refine wpAny_ret_mkInt ?_
  show wpAny _ _ (if (decide (-(2 : Int) ^ 63 ≤ Builtin.Tuple.tupleHashOf [keyH w k.1, hashT P w k.2]) && decide (Builtin.Tuple.tupleHashOf [keyH w k.1, hashT P w k.2] < 2 ^ 63)) = true then _ else _) Q E _
  have te : ∀ z : Nat, z + 1 + (k.2.length + 1) + 1 = z + (k.2.length + 3) := fun z => by omega
  unfold hashN reduceHash at h
  by_cases hr : (decide (-(2 : Int) ^ 63 ≤ Builtin.Tuple.tupleHashOf [keyH w k.1, hashT P w k.2]) && decide (Builtin.Tuple.tupleHashOf [keyH w k.1, hashT P w k.2] < 2 ^ 63)) = true
  · rw [if_pos hr]
    rw [if_pos hr] at h
    exact wpAny_pure (by simpa [te] using h)
  · rw [if_neg hr]
    rw [if_neg hr] at h
    exact wpAny_bind (wpAny_rule (wpAny_pure (by simpa [te] using h)))
theorem eq_pair {x y : NKey} {a b : Addr} {Q : Bool → Shared → Prop} (hu : A.units + 1 < cLine) (hx : IsN P w s.heap x a) (hy : IsN P w s.heap y b) (h : Q (decide (x = y)) s) : wpAny (model P w) A (eqBool (.ref a) (.ref b)) Q E s := by
  unfold eqBool
  try with_reducible refine wpAny_holding ?_
  show wpAny _ _ (if (Value.ref a == Value.ref b) = true then _ else _) Q E s
  by_cases hab : (Value.ref a == Value.ref b) = true
  · rw [if_pos hab]
    have e : a = b := by have := eq_of_beq hab; injection this
    subst e
    obtain rfl := hx.inj hy
    exact wpAny_bind (wpAny_rule (wpAny_pure (by simpa using h)))
  rw [if_neg hab]
  have hTb := hy.typeIs
  have hTa := hx.typeIs
  obtain ⟨oa, v, c, na, hoa, _, hda, k1, k2⟩ := hx
  obtain ⟨ob, v', c', nb, hob, _, hdb, k1', k2'⟩ := hy
  have hu' : A.in1.units < cLine := by simpa [Around.in1] using hu
  refine wpAny_bind (wpAny_richCompare_same_room (op := .Eq) hTa hTb F.slot_tuple_eq (wpAny_call_entry F.slot_tuple_eq hTa F.entry_tuple_eq ?_ (F.args_tuple_eq_2 _ _)) (by omega))
  show wpAny _ _ (isInstance (.ref b) (.type "tuple") >>= _) _ _ s
  refine wpAny_bind (wpAny_isInstance hTb isSubtype_tuple_tuple ?_)
  simp only [Bool.not_true, Bool.false_eq_true, if_false]
  refine wpAny_bind (wpAny_tupleItemsOf hoa hda (wpAny_bind (wpAny_tupleItemsOf hob hdb (wpAny_bind ?_))))
  show wpAny _ _ (forIn [(v, v'), (Value.ref c, Value.ref c')] _ _) _ _ s
  rw [List.forIn_cons]
  have fin : ∀ r : Bool, r = decide (x = y) → wpAny (model P w) A (truthy (Value.bool r)) Q E s := fun r e => wpAny_truthy_bool (by rw [e]; exact h)
  refine wpAny_bind (wpAny_bind ((mixKind P w).eqBool (a := x.1) (b := y.1) k1 k1' ?_))
  by_cases e1 : x.1 = y.1
  · rw [decide_eq_true e1]
    simp only [Bool.not_true, Bool.false_eq_true, if_false]
    refine wpAny_pure ?_
    dsimp only
    rw [List.forIn_cons]
    refine wpAny_bind (wpAny_bind (wpAny_eqBool_tuple hu' k2 k2' ?_))
    by_cases e2 : x.2 = y.2
    · rw [decide_eq_true e2]
      simp only [Bool.not_true, Bool.false_eq_true, if_false]
      refine wpAny_pure ?_
      dsimp only
      rw [List.forIn_nil]
      exact wpAny_pure (wpAny_pure ⟨_, rfl, (fun z => nomatch z), fin true (by simp [Prod.ext_iff, e1, e2])⟩)
    · rw [decide_eq_false e2]
      simp only [Bool.not_false, if_true]
      refine wpAny_bind (wpAny_pure (wpAny_pure ?_))
      dsimp only
      exact wpAny_pure (wpAny_pure ⟨_, rfl, (fun z => nomatch z), fin false (by simp [Prod.ext_iff, e2])⟩)
  · rw [decide_eq_false e1]
    simp only [Bool.not_false, if_true]
    refine wpAny_bind (wpAny_pure (wpAny_pure ?_))
    dsimp only
    exact wpAny_pure (wpAny_pure ⟨_, rfl, (fun z => nomatch z), fin false (by simp [Prod.ext_iff, e1])⟩)
theorem quiet_tuple (d : Nat) {k : List Key} {a : Addr} {Q : Bool → Shared → Prop} (x : IsU P w s.heap k a) (h : Q true s) : wpAny (model P w) A (eqIsQuiet (d + 1) (.ref a)) Q E s := by
  have hT := x.typeIs
  obtain ⟨o, items, n, ho, _, hd, hi⟩ := x
  unfold eqIsQuiet
  refine wpAny_bind (wpAny_specialOf hT F.slot_tuple_eq.lookup ?_)
  show wpAny _ _ (isInstance (.ref a) (.type "tuple") >>= _) _ _ s
  refine wpAny_bind (wpAny_isInstance hT isSubtype_tuple_tuple ?_)
  simp only [Bool.not_true, Bool.false_eq_true, if_false]
  refine wpAny_bind (wpAny_seqItems ho hd (wpAny_bind ?_))
  show wpAny _ _ (forIn items _ _) _ _ s
  rw [← Array.forIn_toList]
  refine ask_each (f := fun _ => pure true) (d := true) items.toList (fun v m Q' q' => ?_) (wpAny_pure h)
  obtain ⟨i, z⟩ := items_keys hi v m
  rw [eqIsQuiet_byValue _ ((mixKind P w).byValue i v z)]
  exact wpAny_bind (wpAny_pure (wp_if_neg (by simp) (wpAny_pure q')))
theorem quiet_pair {k : NKey} {a : Addr} {Q : Bool → Shared → Prop} (x : IsN P w s.heap k a) (h : Q true s) : wpAny (model P w) A (eqIsQuiet 8 (.ref a)) Q E s := by
  have hT := x.typeIs
  obtain ⟨o, v, b, n, ho, _, hd, k1, k2⟩ := x
  unfold eqIsQuiet
  refine wpAny_bind (wpAny_specialOf hT F.slot_tuple_eq.lookup ?_)
  show wpAny _ _ (isInstance (.ref a) (.type "tuple") >>= _) _ _ s
  refine wpAny_bind (wpAny_isInstance hT isSubtype_tuple_tuple ?_)
  simp only [Bool.not_true, Bool.false_eq_true, if_false]
  refine wpAny_bind (wpAny_seqItems ho hd (wpAny_bind ?_))
  show wpAny _ _ (forIn #[v, Value.ref b] _ _) _ _ s
  rw [← Array.forIn_toList]
  refine ask_each (f := fun _ => pure true) (d := true) [v, Value.ref b] (fun u m Q' q' => ?_) (wpAny_pure h)
  rcases List.mem_cons.mp m with rfl | m
  · rw [eqIsQuiet_byValue _ ((mixKind P w).byValue k.1 _ k1)]
    exact wpAny_bind (wpAny_pure (wp_if_neg (by simp) (wpAny_pure q')))
  · rw [List.mem_singleton.mp m]
    exact wpAny_bind (quiet_tuple 6 k2 (wp_if_neg (by simp) (wpAny_pure q')))
end
def nestKind (P : Program) (w : World) : HeapKind P w NKey where
  is := IsN P w
  hash := hashN P w
  draws := fun k => k.2.length + 3
  room := fun A => A.units + 1 < cLine
  inj := fun hx hy => hx.inj hy
  keeps := fun x ho hd hs => x.keeps ho hd hs
  pyHash := fun hu x h => hash_pair hu x h
  eqBool := fun hu hx hy h => eq_pair hu hx hy h
  quiet := fun x h => quiet_pair x h
end TW
namespace TW
open PySem PySem.Spec PyProof.Rows L2
/-- the entries of a dict of pairs, all True -/
def entN (P : Program) (w : World) (xs : List (NKey × Addr)) : List DictEntry := xs.map fun x => ⟨hashN P w x.1, .ref x.2, .bool true⟩
structure DictN (P : Program) (w : World) (h : Heap) (a : Addr) (xs : List (NKey × Addr)) (o : Obj) (es : Array DictEntry) (ep : Nat) : Prop where
  obj : h.get? a = some o
  ex : o.ExactDict
  data : o.data = .dict es ep
  ents : es.toList = entN P w xs
  once : (xs.map (·.1)).Nodup
  len : xs.length ≤ sizeLine
  nsys : (a == sysModules) = false
/-- the dict of these pairs at a -/
def DNO (P : Program) (w : World) (a : Addr) (xs : List (NKey × Addr)) : HO := .ext fun h => ∃ o es ep, DictN P w h a xs o es ep
theorem dno_ok {P : Program} {w : World} {H : Hp} {h : Heap} {a : Addr} {xs : List (NKey × Addr)} {o : Obj} {es : Array DictEntry} {ep : Nat} (D : DictN P w h a xs o es ep) : ObjOk P w H h a (DNO P w a xs) :=
  ⟨⟨o, es, ep, D⟩, ⟨o, D.obj⟩, fun h1 h2 ⟨o, es, ep, D⟩ k => ⟨o, es, ep, k o D.obj, D.ex, D.data, D.ents, D.once, D.len, D.nsys⟩⟩
/-- the pair k is tracked at a -/
def PairAt (H : Hp) (k : NKey) (a : Addr) : Prop := ∃ c, H a = some (.tup [kV k.1, .ref c]) ∧ H c = some (.tup (k.2.map kV))
def hasN (xs : List (NKey × Addr)) (k : NKey) : Bool := xs.any fun x => decide (x.1 = k)
def putN (xs : List (NKey × Addr)) (k : NKey) (b : Addr) : List (NKey × Addr) := if hasN xs k = true then xs else xs ++ [(k, b)]
section
variable {X : Cx} {pins : List (Addr × Obj)} {σ : L2.St} {H : Hp} {s : Shared}
theorem isN_of (I : Inv X pins σ H s) {k : NKey} {a : Addr} (p : PairAt H k a) : IsN X.prog X.w s.heap k a := by
  obtain ⟨c, e1, e2⟩ := p
  obtain ⟨_, its, r, o, h1, h2, n, h3⟩ := (show ObjOk X.prog X.w H s.heap a (.tup [kV k.1, .ref c]) from I.hok a _ e1)
  cases r with
  | cons r1 r2 =>
    cases r2 with
    | cons r2 r3 =>
      cases r3
      cases (show _ = Value.ref c from r2)
      exact ⟨o, _, c, n, h1, h2, h3, relV_key r1, key_of I.hok e2⟩
theorem atKey_trues (k : NKey) : ∀ (xs : List (NKey × Addr)), (atKey (xs.map fun x => (x.1, x.2, Value.bool true)) k).isSome = hasN xs k
  | [] => rfl
  | x :: xs => by
    have ih := atKey_trues k xs
    unfold atKey hasN at ih ⊢
    rw [List.map_cons, List.find?_cons, List.any_cons, ← ih]
    by_cases e : x.1 = k
    · rw [decide_eq_true e]
      rfl
    · rw [decide_eq_false e]
      rfl
theorem stored_trues (xs : List (NKey × Addr)) (k : NKey) (b : Addr) : storedH (xs.map fun x => (x.1, x.2, Value.bool true)) k b (.bool true) = (putN xs k b).map fun x => (x.1, x.2, Value.bool true) := by
  unfold storedH putN
  rw [atKey_trues]
  by_cases m : hasN xs k = true
  · rw [if_pos m, if_pos m, List.map_map]
    refine List.map_congr_left fun x _ => ?_
    show putAt k (.bool true) (x.1, x.2, Value.bool true) = _
    unfold putAt
    split <;> rfl
  · rw [if_neg m, if_neg m, List.map_append]
    rfl
theorem putN_len (xs : List (NKey × Addr)) (k : NKey) (b : Addr) : (putN xs k b).length ≤ xs.length + 1 := by
  unfold putN
  split
  · omega
  · simp
/-- d[there, longer] = True -/
def rSetN (P : Program) (w : World) : TSet := fun o i v H Q => ∃ (a b : Addr) (k : NKey) (xs : List (NKey × Addr)), o = .ref a ∧ i = .ref b ∧ v = .bl true ∧ H a = some (DNO P w a xs) ∧ PairAt H k b ∧ (∀ x ∈ xs, PairAt H x.1 x.2) ∧ xs.length < sizeLine ∧ Q (upd H a (DNO P w a (putN xs k b)))
theorem set_n (hu : X.A.units + 2 < cLine) : PSet X (rSetN X.prog X.w) := by
  intro pins s σ H o i v ov iv u Q I ro ri rv h
  obtain ⟨a, b, k, xs, rfl, rfl, rfl, at_a, at_b, all, few, q⟩ := h
  cases (show ov = Value.ref a from ro)
  cases (show iv = Value.ref b from ri)
  cases (show u = Value.bool true from rv)
  obtain ⟨o, es, ep, D⟩ := (I.hok a _ at_a).1
  have dict_ : s.heap.DictOfH (nestKind X.prog X.w) a (xs.map fun x => (x.1, x.2, Value.bool true)) := by
    refine ⟨o, es, ep, D.obj, D.ex, D.data, ?_, fun x m => ?_, ?_⟩
    · rw [D.ents, List.map_map]
      rfl
    · obtain ⟨y, my, rfl⟩ := List.mem_map.mp m
      exact isN_of I (all y my)
    · rw [List.map_map]
      exact D.once
  refine wpAny_setItem_heap (knd := nestKind X.prog X.w) (hsz := by rw [List.length_map]; omega) (k := k) (show X.A.in1.units + 1 < cLine by simp [Around.in1]; omega) (isN_of I at_b) dict_ fun h' now same => ?_
  obtain ⟨o', es', ep', o_at, ex, data, listed, _, nd⟩ := now
  rw [stored_trues, List.map_map] at nd listed
  have len := putN_len xs k b
  exact ⟨_, d_write I (by rw [at_a]; exact True.intro) same ⟨o', o_at⟩ (dno_ok ⟨o_at, ex, data, listed, nd, by omega, D.nsys⟩), q⟩
/-- {}, to be a dict of pairs -/
def tDNewN (P : Program) (w : World) : TE := fun _ H Q => ∀ p, H p = none → Q (.ref p) (upd H p (DNO P w p []))
theorem pe_dnewN {pos : Pos} : PE X (.Dict [] [] pos) (tDNewN X.prog X.w) := ⟨fun pins s σ H Q I h =>
  wpAny_Dict_empty ⟨.ref s.heap.objs.size, _, I.laid (a := s.heap.objs.size) (t' := s.toks) (fun _ _ q => Heap.get?_push_of_some _ q) (Nat.le_refl _) (dno_ok (xs := []) ⟨Heap.get?_push_size _ rfl, ⟨rfl, rfl, rfl⟩, rfl, rfl, List.nodup_nil, Nat.zero_le _, beq_eq_false_iff_ne.mpr (Ne.symm (Nat.ne_of_lt I.big))⟩), rfl, h _ (I.hok.fresh (Nat.le_refl _))⟩⟩
theorem vals_refsN : ∀ (xs : List (NKey × Addr)), Vals (xs.map fun x => V.ref x.2) (xs.map fun x => Value.ref x.2)
  | [] => .nil
  | x :: xs => .cons rfl (vals_refsN xs)
/-- list(d) -/
def rListN (P : Program) (w : World) : List V → Hp → VK → Prop := fun vs H Q => ∃ (d : Addr) (xs : List (NKey × Addr)), vs = [V.ref d] ∧ H d = some (DNO P w d xs) ∧ ∀ p, H p = none → Q (.ref p) (upd H p (.lst (xs.map fun x => V.ref x.2)))
theorem cr_listN (hc : X.calm = true := by rfl) : CallR X (.type "list") (rListN X.prog X.w) := by
  intro pins s σ H vs us Q I r h
  obtain ⟨d, xs, rfl, at_d, q⟩ := h
  rw [Vals.ref1 r]
  obtain ⟨o, es, ep, D⟩ := (I.hok d _ at_d).1
  have size : es.size = xs.length := by
    have z := congrArg List.length D.ents
    rw [Array.length_toList, entN, List.length_map] at z
    exact z
  have few := D.len
  refine PySem.W.kdl_call (kdl_raw D.nsys D.ex D.data) (I.ok.hd hc) D.obj (by omega) fun h' tk acc' c' kp e it => ?_
  have is_ : acc'.toList = xs.map fun x => Value.ref x.2 := by
    apply List.ext_getElem?
    intro j
    rw [List.getElem?_map]
    cases at_j : acc'.toList[j]? with
    | none =>
      have z := List.getElem?_eq_none_iff.mp at_j
      rw [Array.length_toList, it.1, size] at z
      rw [List.getElem?_eq_none z]
      rfl
    | some v =>
      obtain ⟨en, at_e, rfl⟩ := it.2 j v (by rw [← Array.getElem?_toList]; exact at_j)
      rw [← Array.getElem?_toList, D.ents, entN, List.getElem?_map] at at_e
      obtain ⟨x, e1, rfl⟩ := Option.map_eq_some_iff.mp at_e
      rw [e1]
      rfl
  have rv : Vals (xs.map fun x => V.ref x.2) acc'.toList := by
    rw [is_]
    exact vals_refsN xs
  refine ⟨.ref s.heap.objs.size, _, I.laid (t' := tk) (o := .lst (xs.map fun x => V.ref x.2)) kp (Nat.le_refl _) ⟨by rw [List.length_map]; exact few, acc'.toList, c', rv, by rw [Array.toArray_toList]; exact e⟩, rfl, q _ (I.hok.fresh (Nat.le_refl _))⟩
end
end TW
set_option Elab.async false
set_option linter.all false
set_option maxRecDepth 100000
set_option maxHeartbeats 8000000
/-! drawn marks -/
namespace TW
open PySem PySem.Spec PyProof.Rows L2 RZ StX
open Evl (Ex)
theorem keysK_put_old {kvs : List (Key × V)} {k : Key} {v : V} (h : (valV kvs k).isSome = true) : (putK kvs k v).map (·.1) = kvs.map (·.1) := by
  have e := valV_any k kvs
  rw [h] at e
  unfold putK
  rw [if_pos e, List.map_map]
  refine List.map_congr_left fun p _ => ?_
  show (if p.1 = k then (p.1, v) else p).1 = p.1
  split <;> rfl
/-- put once or more -/
theorem Tells.put_old {K : PySem.W.Frag} {F : Hp} {acc : List (Key × V)} {ks : List Str} {m m' : Str → List Str} {enc : List PyData → PyData} {b : Str} {z : V} (h : Tells K F acc ks m enc) (hb : b ∈ ks) (hm : ∀ s, s ≠ b → m' s = m s) (hz : Dp K F z (enc ((m' b).map .str))) :
    Tells K F (putK acc (Sum.inr b) z) ks m' enc := by
  obtain ⟨v, v1, _⟩ := h.va b hb
  refine ⟨by rw [keysK_put_old (by rw [v1]; rfl)]; exact h.ke, fun s hs => ?_⟩
  rw [valV_put]
  by_cases e : s = b
  · subst e
    exact ⟨z, by rw [if_pos rfl], hz⟩
  · rw [if_neg fun q => e (Sum.inr.inj q), hm s e]
    exact h.va s hs
theorem ite_int {c : Prop} [Decidable c] {σ : L2.St} {H : Hp} {m n : Int} {R : V → Hp → Prop} (h : ∀ z, (z = m ∧ c) ∨ (z = n ∧ ¬ c) → R (.int z) H) : if c then tC (.int m) σ H R else tC (.int n) σ H R := by
  by_cases q : c
  · rw [if_pos q]; exact h m (.inl ⟨rfl, q⟩)
  · rw [if_neg q]; exact h n (.inr ⟨rfl, q⟩)
/-- the marks that may be drawn -/
def pool (wide : Bool) (sounds : List Str) : List Str := sounds ++ if wide = true then (["x", "y+", "-z", "w"] : List Str) else []
def okM (sounds : List Str) (l : List Str) : Prop := 1 ≤ l.length ∧ l.length ≤ 6 ∧ l.Nodup ∧ ∀ z ∈ l, z = "" ∨ z ∈ sounds
/-- while the marks of b are drawn: l they are -/
structure MSt (K : PySem.W.Frag) (F0 H1 : Hp) (p D : Addr) (pl sounds : List Str) (i : Nat) (b : Str) (l : List Str) (F3 H3 : Hp) (kvs : List (Key × V)) (m : Str → List Str) (t3 : Int) : Prop where
  g : Gr [p, D] F0 H1 F3 H3
  fD : F3 D = none
  hD : H3 D = some (.dK kvs)
  lk : kvs.length ≤ i + 1
  tl : Tells K F3 kvs (sounds.take (i + 1)) m .list
  mb : m b = l
  ok : ∀ k ∈ sounds.take i, okM pl (m k)
  pe : PenAt K F3 H3 p t3
theorem MSt.put {K : PySem.W.Frag} {F0 H1 : Hp} {p D : Addr} {pl sounds : List Str} {i : Nat} {b : Str} {l l' : List Str} {F3 H3 : Hp} {kvs : List (Key × V)} {m : Str → List Str} {t3 : Int} {z : V} (h : MSt K F0 H1 p D pl sounds i b l F3 H3 kvs m t3) (hz : Dp K F3 z (.list (l'.map .str))) (n : p ≠ D)
    (hb : b ∈ sounds.take (i + 1)) (bn : b ∉ sounds.take i) : MSt K F0 H1 p D pl sounds i b l' F3 (upd H3 D (.dK (putK kvs (Sum.inr b) z))) (putK kvs (Sum.inr b) z) (fun s => if s = b then l' else m s) t3 where
  g := h.g.mut h.fD (.inl (by simp))
  fD := h.fD
  hD := upd_same
  lk := by
    obtain ⟨v, v1, _⟩ := h.tl.va b hb
    have e := congrArg List.length (keysK_put_old (kvs := kvs) (k := Sum.inr b) (v := z) (by rw [v1]; rfl))
    rw [List.length_map, List.length_map] at e
    have := h.lk
    omega
  tl := h.tl.put_old hb (fun s hs => if_neg hs) (by rw [if_pos rfl]; exact hz)
  mb := if_pos rfl
  ok := fun k hk => by
    have hne : k ≠ b := fun e => bn (e ▸ hk)
    show okM pl (if k = b then l' else m k)
    rw [if_neg hne]
    exact h.ok k hk
  pe := h.pe.upd' n
theorem MSt.gr {K : PySem.W.Frag} {F0 H1 : Hp} {p D : Addr} {pl sounds : List Str} {i : Nat} {b : Str} {l : List Str} {F3 H3 F4 H4 : Hp} {kvs : List (Key × V)} {m : Str → List Str} {t3 t4 : Int} (h : MSt K F0 H1 p D pl sounds i b l F3 H3 kvs m t3) (n : p ≠ D) (g : Gr [p] F3 H3 F4 H4) (pe : PenAt K F4 H4 p t4) : MSt K F0 H1 p D pl sounds i b l F4 H4 kvs m t4 where
  g := h.g.trans g fun b hb => .inl (by rw [List.mem_singleton.mp hb]; simp)
  fD := g.none' h.fD (by rw [h.hD]; exact fun z => nomatch z)
  hD := g.hh D _ (by simpa using Ne.symm n) h.hD
  lk := h.lk
  tl := h.tl.ex g.ff
  mb := h.mb
  ok := h.ok
  pe := pe
def spLMarks (K : PySem.W.Frag) : Sp := fun vs H Q _ => ∃ (F : Hp) (p : Addr) (v : V) (sounds : List Str) (t : Int) (wide : Bool), vs = [.ref p, v, .bl wide] ∧ Sees F H ∧ PenAt K F H p t ∧ Dp K F v (.list (sounds.map .str)) ∧ sounds.Nodup ∧ 0 < sounds.length ∧ sounds.length ≤ 20 ∧ t + 8 * sounds.length ≤ 1000000 ∧ ("" : Str) ∉ sounds ∧ (wide = true → ∀ z ∈ sounds, PyData.strOk z = true ∧ z ∉ (["x", "y+", "-z", "w"] : List Str)) ∧
  ∀ (a : Addr) (kvs : List (Key × V)) (m : Str → List Str) (t' : Int) F' H', F' a = some (.dK kvs) → H' a = some (.dK kvs) → Tells K F' kvs sounds m .list → (∀ k ∈ sounds, okM (pool wide sounds) (m k)) → t ≤ t' → t' ≤ t + 8 * sounds.length → Gr [p] F H F' H' → PenAt K F' H' p t' → Q (.ref a) H'
section
variable {P : Program} {w : World} {K : PySem.W.Frag} {mg : Str → Option Value} {base : Heap}
theorem ok_lmarks {f : Addr} {fd : FuncData} (F : FunD K "_law_marks" "_law_marks" (defArgs s__law_marks) (defBody s__law_marks) (defScope s__law_marks) [.bl false] [] f fd) (T : Txt mg) (C__law_draw : Cal P w K mg base "_law_draw" 1 ["pen", "many"] [] (spDraw K)) (C__law_pick : Cal P w K mg base "_law_pick" 2 ["pen", "some"] [] (spPick K)) (C__law_shuffled : Cal P w K mg base "_law_shuffled" 2 ["pen", "some"] [] (spShuf K)) :
    FnOk P w K mg base CX0 3 f fd ["pen", "sounds", "is_wide"] (spLMarks K) := by
  refine okD F sc__law_marks (fun vs H Q E h => ?_) (fun cdv A outer s H vs Q E hr h => ?_)
  · obtain ⟨F0, p, v, sounds, t, wide, rfl, _⟩ := h
    rfl
  · obtain ⟨F0, p, v, sounds, t, wide, rfl, fs, hp, hv, nd, s0, s20, ht, ne, nex, q⟩ := h
    have hu := hu_of hr
    have hu8 := hu8_of hr
    have hu16 := hu16_of hr
    have lz : 100000 < sizeLine := by rw [sizeLine_eq]; decide
    refine ⟨_, (pss_cons (zs (i := 3) sc__law_marks.nd pe_dnewK)
      (pss_cons (ps_for PassesOwn.never rfl (zseq K (pv 1)) (zg (i := 4) sc__law_marks.nd)
        (pss_cons (zs (i := 5) sc__law_marks.nd (pe_cal C__law_draw (hr.mono (by decide)) (pa_cons (pv 0) (pa_cons (pe_ifExp (ztruth K (pv 2)) pe_int pe_int) pa_nil))))
        (pss_cons (ps_dput hu (pv 3) (pv 4) (pe_lst (pa_cons (pv 4) pa_nil)) rfl)
        (pss_cons (ps_if (pt_cmpR op_eq (pv 5) pe_int (nomark _))
          (pss_one (ps_dput hu (pv 3) (pv 4) (pe_lst (pa_cons pe_str pa_nil)) rfl))
          pss_nil)
        (pss_cons (ps_if (pt_cmpR op_eq (pv 5) pe_int (nomark _))
          (pss_one (ps_dput hu (pv 3) (pv 4) (pe_lst (pa_cons pe_str (pa_cons (pv 4) pa_nil))) rfl))
          pss_nil)
        (pss_cons (ps_if (pt_cmpR op_eq (pv 5) pe_int (nomark _))
          (pss_one (ps_dput hu (pv 3) (pv 4) (pe_lst (pa_cons (pe_cal C__law_pick (hr.mono (by decide)) (pa_cons (pv 0) (pa_cons (pv 1) pa_nil))) pa_nil)) rfl))
          pss_nil)
        (pss_cons (ps_if (pt_cmpR op_eq (pv 5) pe_int (nomark _))
          (pss_one (ps_dput hu (pv 3) (pv 4) (pe_callB (cr_sortedKS w hu8) (by rfl) T.sorted bt_sorted (pa_cons (pe_callTy (cr_setK K w) (by rfl) T.set bt_set (pa_cons (pe_lst (pa_cons (pv 4) (pa_cons (pe_cal C__law_pick (hr.mono (by decide)) (pa_cons (pv 0) (pa_cons (pv 1) pa_nil))) pa_nil))) pa_nil)) pa_nil)) rfl))
          pss_nil)
        (pss_one (ps_if (pt_cmpR op_eq (pv 5) pe_int (nomark _))
          (pss_one (ps_dput hu (pv 3) (pv 4) (pe_callB (cr_sortedD K hu16) (by rfl) T.sorted bt_sorted (pa_cons (pe_slice (sl_LA K) (pe_cal C__law_shuffled (hr.mono (by decide)) (pa_cons (pv 0) (pa_cons (pe_lst (pa_cons pe_str (pa_cons (pv 4) (pa_cons pe_str (pa_cons pe_str (pa_cons pe_str (pa_cons pe_str pa_nil))))))) pa_nil))) po_none (po_some (pe_op op_add pe_int (pe_cal C__law_draw (hr.mono (by decide)) (pa_cons (pv 0) (pa_cons pe_int pa_nil)))))) pa_nil)) rfl))
          pss_nil)))))))))
      (pss_one (ps_ret (pv 3))))), ?_⟩
    obtain ⟨op, hpo⟩ := hp.at
    refine fun D hD => ?_
    have nDp : p ≠ D := ne_of_none hpo hD
    have g0 := (Gr.refl (B := [p, D]) fs).newM (o := .dK []) hD
    have hp0 := hp.upd' (o := .dK []) nDp
    have hD0 : upd H D (.dK []) D = some (.dK []) := upd_same
    have fD0 := fs.dm hD
    generalize upd H D (.dK []) = H1 at g0 hp0 hD0 ⊢
    refine ⟨_, rfl, seq_walk hv (.inl rfl) g0.fh fun J xs G w1 hG hxs hlen => ?_⟩
    rw [hlen, List.length_map] at w1
    refine for_it w1 (fun i σ' H' => ∃ (o4 o5 : Option V) (F' : Hp) (kvs : List (Key × V)) (m : Str → List Str) (t' : Int), σ' = [some (.ref p), some v, some (.bl wide), some (.ref D), o4, o5] ∧ Gr [p, D] F0 H1 F' H' ∧ F' D = none ∧ H' D = some (.dK kvs) ∧ kvs.length ≤ i ∧
        Tells K F' kvs (sounds.take i) m .list ∧ (∀ k ∈ sounds.take i, okM (pool wide sounds) (m k)) ∧ PenAt K F' H' p t' ∧ t ≤ t' ∧ t' ≤ t + 8 * i)
      ⟨none, none, F0, [], fun _ => [], t, rfl, Gr.refl g0.fh, fD0, hD0, Nat.zero_le _, ⟨rfl, by simp⟩, by simp, hp0, Int.le_refl _, by omega⟩ (fun i σ' H' _ ⟨_, _, F', _, _, _, _, g, _⟩ => hG H' (fun a o e => g.fh a o (g.ff a o e))) ?_ ?_
    · rintro i y σ' H' H'' hi ⟨o4, o5, F', kvs, m, t', rfl, g, fD, hDk, lk, tl, okm, hp', u1, u2⟩ ⟨rfl, hyi⟩
      have hi' : i < sounds.length := hi
      obtain ⟨d, k1, k2⟩ := hxs.get hyi
      rw [List.getElem?_map] at k1
      obtain ⟨b, hb, rfl⟩ := Option.map_eq_some_iff.mp k1
      rw [dp_str] at k2
      subst k2
      have bm : b ∈ sounds := List.mem_of_getElem? hb
      have tk : sounds.take (i + 1) = sounds.take i ++ [b] := by rw [List.take_add_one, hb]; rfl
      have bn : b ∉ sounds.take i := fun h => by
        have z : (sounds.take (i + 1)).Nodup := nd.sublist (List.take_sublist _ _)
        rw [tk] at z
        exact (List.nodup_append.mp z).2.2 b h b (by simp) rfl
      have bne : b ≠ "" := fun e => ne (e ▸ bm)
      have nDo : ∀ {F3 H3}, Gr [p] F' H'' F3 H3 → F3 D = none ∧ H3 D = some (.dK kvs) := fun g => ⟨g.none' fD (by rw [hDk]; exact fun z => nomatch z), g.hh D _ (by simpa using Ne.symm nDp) hDk⟩
      have hD0' : H1 D ≠ none := by rw [hD0]; exact fun z => nomatch z
      refine ⟨_, rfl, _, rfl, wide, rfl, ite_int fun z hz => ?_⟩
      refine ⟨F', p, z, t', rfl, g.fh, hp', by omega, by omega, by omega, fun way t1 F2 H2 w0 w8 v1 v2 g2 hp2 => ?_⟩
      have w8' : way = 8 → wide = true := fun e => by
        rcases hz with ⟨_, c⟩ | ⟨e2, _⟩
        · exact c
        · omega
      obtain ⟨fD2, hDk2⟩ := nDo g2
      have g02 := g.trans g2 fun b hb => .inl (by rw [List.mem_singleton.mp hb]; simp)
      refine ⟨_, rfl, by show 1 ≤ sizeLine; omega, fun L0 hL0 => ?_⟩
      have hbt : b ∈ sounds.take (i + 1) := by rw [tk]; simp
      have lst : ∀ {F3 H3 F4 H4 : Hp} {l0 : List Str} {kv0 : List (Key × V)} {m0 : Str → List Str} {t3 : Int} {l' : List Str} {L : Addr}, MSt K F0 H1 p D (pool wide sounds) sounds i b l0 F3 H3 kv0 m0 t3 → Gr [] F3 H3 F4 H4 → F4 L = some (.lst (l'.map V.str)) → MSt K F0 H1 p D (pool wide sounds) sounds i b l' F4 (upd H4 D (.dK (putK kv0 (Sum.inr b) (.ref L)))) (putK kv0 (Sum.inr b) (.ref L)) (fun s => if s = b then l' else m0 s) t3 :=
        fun h g hL => (h.gr nDp (g.mono fun _ hb => absurd hb (by simp)) (h.pe.gr g (by simp))).put (.lst (.inl (.inl hL)) (dps_str.mpr rfl)) nDp hbt bn
      -- the first list
      have gL0 := g02.new (o := .lst [.str b]) hL0
      have e0 : Ex F2 (upd F2 L0 (.lst [.str b])) := Ex.new (g2.fh.dm hL0)
      have ne0 : L0 ≠ D := (ne_of_none hDk2 hL0).symm
      refine ⟨_, rfl, _, rfl, D, _, rfl, DPut.k (k := Sum.inr b) (by rw [upd_ne (Ne.symm ne0)]; exact hDk2) (by omega), ?_⟩
      have s1 : MSt K F0 H1 p D (pool wide sounds) sounds i b [b] (upd F2 L0 (.lst [.str b])) (upd (upd H2 L0 (.lst [.str b])) D (.dK (putK kvs (Sum.inr b) (.ref L0)))) (putK kvs (Sum.inr b) (.ref L0)) (fun s => if s = b then [b] else m s) t1 := by
        have fD3 : upd F2 L0 (.lst [.str b]) D = none := by rw [upd_ne (Ne.symm ne0)]; exact fD2
        refine ⟨gL0.mut fD3 (.inl (by simp)), fD3, upd_same, by have := length_putK kvs (Sum.inr b : Key) (V.ref L0); omega, ?_, if_pos rfl, fun k hk => ?_, (hp2.gr ((Gr.refl (B := []) g2.fh).new hL0) (by simp)).upd' nDp⟩
        · have tl' : Tells K (upd F2 L0 (.lst [.str b])) kvs (sounds.take i) (fun s => if s = b then [b] else m s) .list := by
            refine ⟨tl.ke, fun s hs => ?_⟩
            obtain ⟨v', v1', v2'⟩ := tl.va s hs
            refine ⟨v', v1', ?_⟩
            rw [show (if s = b then [b] else m s) = m s from if_neg fun (e : s = b) => bn (by rw [← e]; exact hs)]
            exact (v2'.ex g2.ff).ex e0
          exact tells_put tl' nd hb (by rw [if_pos rfl]; exact .lst (.inl (.inl upd_same)) (.cons (.str b) .nil))
        · show okM (pool wide sounds) (if k = b then [b] else m k)
          rw [if_neg fun (e : k = b) => bn (by rw [← e]; exact hk)]
          exact okm k hk
      generalize upd (upd H2 L0 (.lst [.str b])) D (.dK (putK kvs (Sum.inr b) (.ref L0))) = H3 at s1 ⊢
      generalize putK kvs (Sum.inr b) (.ref L0) = kv3 at s1
      generalize upd F2 L0 (.lst [.str b]) = F3 at s1
      generalize (fun s => if s = b then [b] else m s) = m3 at s1
      have fin : ∀ (l : List Str) F4 H4 kv4 m4 t4, MSt K F0 H1 p D (pool wide sounds) sounds i b l F4 H4 kv4 m4 t4 → okM (pool wide sounds) l → t1 ≤ t4 → t4 ≤ t1 + 7 → ∃ (o4 o5 : Option V) (F' : Hp) (kvs : List (Key × V)) (m : Str → List Str) (t' : Int), [some (.ref p), some v, some (.bl wide), some (.ref D), some (.str b), some (.int way)] = [some (.ref p), some v, some (.bl wide), some (.ref D), o4, o5] ∧ Gr [p, D] F0 H1 F' H4 ∧ F' D = none ∧ H4 D = some (.dK kvs) ∧ kvs.length ≤ i + 1 ∧
          Tells K F' kvs (sounds.take (i + 1)) m .list ∧ (∀ k ∈ sounds.take (i + 1), okM (pool wide sounds) (m k)) ∧ PenAt K F' H4 p t' ∧ t ≤ t' ∧ t' ≤ t + 8 * (i + 1 : Nat) := fun l F4 H4 kv4 m4 t4 h hl x1 x2 =>
        ⟨_, _, F4, kv4, m4, t4, rfl, h.g, h.fD, h.hD, h.lk, h.tl, fun k hk => by
          rw [tk, List.mem_append, List.mem_singleton] at hk
          rcases hk with hk | rfl
          · exact h.ok k hk
          · rw [h.mb]; exact hl, h.pe, by omega, by omega⟩
      have yes : ∀ {j : Int} {A B : Prop}, way = j → A → if decide (V.int way = V.int j) = true then A else B := fun e h => iteYes (by simp [e]) h
      have no : ∀ {j : Int} {A B : Prop}, way ≠ j → B → if decide (V.int way = V.int j) = true then A else B := fun e h => iteNo (by simp [e]) h
      have inp : ∀ {z : Str}, z ∈ sounds → z ∈ pool wide sounds := fun m => List.mem_append_left _ m
      have sees3 := s1.g.fh
      by_cases c0 : way = 0
      · refine ⟨_, rfl, rfl, _, rfl, yes c0 ⟨by show 1 ≤ sizeLine; omega, fun L1 hL1 => ⟨_, rfl, _, rfl, D, _, rfl, DPut.k (k := Sum.inr b) (by rw [upd_ne (ne_of_none s1.hD hL1)]; exact s1.hD) (by have := s1.lk; omega), ?_⟩⟩⟩
        refine ⟨_, rfl, rfl, _, rfl, no (by omega) ⟨_, rfl, rfl, _, rfl, no (by omega) ⟨_, rfl, rfl, _, rfl, no (by omega) ⟨_, rfl, rfl, _, rfl, no (by omega) ?_⟩⟩⟩⟩
        exact fin _ _ _ _ _ _ (lst (l' := [("" : Str)]) s1 ((Gr.refl sees3).new hL1) upd_same) ⟨by simp, by simp, by simp, by simp⟩ (Int.le_refl _) (by omega)
      refine ⟨_, rfl, rfl, _, rfl, no c0 ?_⟩
      by_cases c1 : way = 1
      · refine ⟨_, rfl, rfl, _, rfl, yes c1 ⟨_, rfl, by show 2 ≤ sizeLine; omega, fun L1 hL1 => ⟨_, rfl, _, rfl, D, _, rfl, DPut.k (k := Sum.inr b) (by rw [upd_ne (ne_of_none s1.hD hL1)]; exact s1.hD) (by have := s1.lk; omega), ?_⟩⟩⟩
        refine ⟨_, rfl, rfl, _, rfl, no (by omega) ⟨_, rfl, rfl, _, rfl, no (by omega) ⟨_, rfl, rfl, _, rfl, no (by omega) ?_⟩⟩⟩
        exact fin _ _ _ _ _ _ (lst (l' := [("" : Str), b]) s1 ((Gr.refl sees3).new hL1) upd_same) ⟨by simp, by simp, by simpa using Ne.symm bne, by simp [inp bm]⟩ (Int.le_refl _) (by omega)
      refine ⟨_, rfl, rfl, _, rfl, no c1 ?_⟩
      have pick : ∀ {R : VK}, (∀ (z : Str) t4 F4 H4, z ∈ sounds → t1 ≤ t4 → t4 ≤ t1 + 1 → Gr [p] F3 H3 F4 H4 → PenAt K F4 H4 p t4 → R (.str z) H4) → (spPick K) [.ref p, v] H3 R E0 := fun k =>
        ⟨F3, p, v, _, _, t1, rfl, sees3, s1.pe, by omega, hv.ex s1.g.ff, .inl rfl, by rw [List.length_map]; exact s0, by rw [List.length_map]; omega, fun r e t4 F4 H4 em hr' x1 x2 g4 hp4 => by
          obtain ⟨z, zm, rfl⟩ := List.mem_map.mp em
          rw [dp_str] at hr'
          subst hr'
          exact k z t4 F4 H4 zm x1 x2 g4 hp4⟩
      by_cases c2 : way = 2
      · refine ⟨_, rfl, rfl, _, rfl, yes c2 ⟨_, rfl, _, rfl, pick fun z t4 F4 H4 zm x1 x2 g4 hp4 => ⟨by show 1 ≤ sizeLine; omega, fun L1 hL1 => ?_⟩⟩⟩
        have s4 := s1.gr nDp g4 hp4
        refine ⟨_, rfl, _, rfl, D, _, rfl, DPut.k (k := Sum.inr b) (by rw [upd_ne (ne_of_none s4.hD hL1)]; exact s4.hD) (by have := s4.lk; omega), ?_⟩
        refine ⟨_, rfl, rfl, _, rfl, no (by omega) ⟨_, rfl, rfl, _, rfl, no (by omega) ?_⟩⟩
        exact fin _ _ _ _ _ _ (lst (l' := [z]) s4 ((Gr.refl s4.g.fh).new hL1) upd_same) ⟨by simp, by simp, by simp, by simp [inp zm]⟩ x1 (by omega)
      refine ⟨_, rfl, rfl, _, rfl, no c2 ?_⟩
      by_cases c3 : way = 3
      · refine ⟨_, rfl, rfl, _, rfl, yes c3 ⟨_, rfl, _, rfl, _, rfl, pick fun z t4 F4 H4 zm x1 x2 g4 hp4 => ⟨by show 2 ≤ sizeLine; omega, fun L1 hL1 => ?_⟩⟩⟩
        have s4 := s1.gr nDp g4 hp4
        have ga := (Gr.refl (B := []) s4.g.fh).newM (o := .lst [.str b, .str z]) hL1
        refine ⟨L1, [b, z].map Sum.inr, rfl, .inl (.inl (.inl upd_same)), by simp, fun q1 n hq1 hn hex => ?_⟩
        have gb := ga.newM (o := SKO w q1 ([b, z].map Sum.inr) n) hq1
        refine ⟨q1, [b, z], n, rfl, upd_same, fun ns L2 srt nnd mem len hL2 => ?_⟩
        have gc := gb.new (o := .lst (ns.map V.str)) hL2
        have hDc := (gc.at s4.hD)
        refine ⟨_, rfl, _, rfl, D, _, rfl, DPut.k (k := Sum.inr b) hDc (by have := s4.lk; omega), ?_⟩
        refine ⟨_, rfl, rfl, _, rfl, no (by omega) ?_⟩
        refine fin _ _ _ _ _ _ (lst (l' := ns) s4 gc upd_same) ⟨?_, ?_, nnd, fun y hy => ?_⟩ x1 (by omega)
        · have : b ∈ ns := (mem b).mpr (by simp)
          exact List.length_pos_of_mem this
        · have z6 := nodup_le (l := ns) (m := [b, z]) nnd fun y hy => (mem y).mp hy
          simp at z6
          omega
        · have := (mem y).mp hy
          simp at this
          rcases this with rfl | rfl
          · exact .inr (inp bm)
          · exact .inr (inp zm)
      refine ⟨_, rfl, rfl, _, rfl, no c3 ?_⟩
      by_cases c8 : way = 8
      · have wd := w8' c8
        refine ⟨_, rfl, rfl, _, rfl, yes c8 ⟨_, rfl, _, rfl, by show 6 ≤ sizeLine; omega, fun L1 hL1 => ?_⟩⟩
        have gL := (Gr.refl (B := []) sees3).new (o := .lst ((["", b, "x", "y+", "-z", "w"] : List Str).map V.str)) hL1
        have sA := s1.gr nDp (gL.mono fun _ hb => absurd hb (by simp)) (s1.pe.gr gL (by simp))
        refine ⟨_, p, .ref L1, .list _, (["", b, "x", "y+", "-z", "w"] : List Str).map .str, t1, rfl, gL.fh, sA.pe, by show t1 + (6 : Nat) ≤ 1000000; omega, .lst (.inl (.inl upd_same)) (dps_str.mpr rfl), .inl rfl, by show 6 ≤ 1000; decide, fun e he => ?_, fun r es t4 F4 H4 pm hr' x1 x2 g4 hp4 => ?_⟩
        · obtain ⟨z, zm, rfl⟩ := List.mem_map.mp he
          rcases List.mem_cons.mp zm with rfl | zm
          · decide +kernel
          rcases List.mem_cons.mp zm with rfl | zm
          · exact (nex wd _ bm).1
          · have all_ : ∀ z ∈ (["x", "y+", "-z", "w"] : List Str), flat1 (.str z) = true := by decide +kernel
            exact all_ z zm
        have x2 : t4 ≤ t1 + 6 := x2
        obtain ⟨six, pm6, rfl⟩ := perm_lift PyData.str pm _ rfl
        have sB := sA.gr nDp g4 hp4
        refine ⟨_, rfl, F4, p, 4, t4, rfl, sB.g.fh, hp4, by omega, by decide, by decide, fun d0 t5 F5 H5 a0 a1 y1 y2 g5 hp5 => ⟨_, _, rfl, rfl, _, rfl, ?_⟩⟩
        have sC := sB.gr nDp g5 hp5
        obtain ⟨n, hn⟩ : ∃ n : Nat, 3 + d0 = (n : Int) := ⟨(3 + d0).toNat, by omega⟩
        dsimp only
        rw [hn]
        refine slQ_dp (hr'.ex g5.ff) (.inl rfl) g5.fh fun vls eL F6 H6 g6 tw hls => ?_
        rw [cutD_to, ← List.map_take] at tw
        have eeL : eL = .list ((six.take n).map .str) := by
          rcases tw with ⟨_, e⟩ | ⟨e, _⟩
          · exact e
          · cases e
        subst eeL
        have sD := sC.gr nDp (g6.mono fun _ hb => absurd hb (by simp)) (hp5.gr g6 (by simp))
        obtain ⟨pa, xa, rfl, hpa, hxa⟩ := dp_list hls
        rw [dps_str] at hxa
        subst hxa
        refine ⟨Str, eS, six.take n, pa, _, F6, rfl, g6.fh, sees_l g6.fh hpa, dps_str.mpr rfl, alikeS _, sortableS _, fun b _ => eS_depth b, fun ys L2 hy hL2 => ?_⟩
        generalize em : (six.take n).mergeSort (PySem.W.dataLe false eS) = ms at hy
        have pk : ms.Perm (six.take n) := em ▸ List.mergeSort_perm _ _
        have hy := dps_str.mp hy
        subst hy
        have gE := (Gr.refl (B := []) sD.g.fh).new (o := .lst (ms.map V.str)) hL2
        refine ⟨_, rfl, _, rfl, D, _, rfl, DPut.k (k := Sum.inr b) (by rw [upd_ne (ne_of_none sD.hD hL2)]; exact sD.hD) (by have := sD.lk; omega), ?_⟩
        have nd6 : (["", b, "x", "y+", "-z", "w"] : List Str).Nodup := by
          have nx := (nex wd b bm).2
          have fx : (["", "x", "y+", "-z", "w"] : List Str).Nodup := by decide +kernel
          have pmn : (["", b, "x", "y+", "-z", "w"] : List Str).Perm (b :: ["", "x", "y+", "-z", "w"]) := List.Perm.swap _ _ _
          refine pmn.nodup_iff.mpr (List.nodup_cons.mpr ⟨fun m => ?_, fx⟩)
          rcases List.mem_cons.mp m with e | m
          · exact bne e
          · exact nx m
        have sub : ∀ z ∈ ms, z ∈ (["", b, "x", "y+", "-z", "w"] : List Str) := fun z hz => pm6.mem_iff.mp (List.mem_of_mem_take (pk.mem_iff.mp hz))
        have l6 : six.length = 6 := pm6.length_eq
        refine fin _ _ _ _ _ _ (lst (l' := ms) sD gE upd_same) ⟨?_, ?_, pk.nodup_iff.mpr ((pm6.nodup_iff.mpr nd6).sublist (List.take_sublist _ _)), fun z hz => ?_⟩ (by omega) (by omega)
        · rw [pk.length_eq, List.length_take]; omega
        · rw [pk.length_eq, List.length_take]; omega
        · have z1 := sub z hz
          rcases List.mem_cons.mp z1 with rfl | z1
          · exact .inl rfl
          rcases List.mem_cons.mp z1 with rfl | z1
          · exact .inr (inp bm)
          · exact .inr (List.mem_append_right _ (by rw [wd, if_pos rfl]; exact z1))
      refine ⟨_, rfl, rfl, _, rfl, no c8 ?_⟩
      exact fin _ _ _ _ _ _ s1 ⟨by simp, by simp, by simp, by simp [inp bm]⟩ (Int.le_refl _) (by omega)
    · rintro σ' H' ⟨o4, o5, F', kvs, m, t', rfl, g, fD, hDk, lk, tl, okm, hp', u1, u2⟩
      rw [List.take_length] at tl okm
      have hD0' : H D = none := hD
      have gd : Gr [p] F0 H (upd F' D (.dK kvs)) H' := ((g0.mono (B' := [p]) (fun b hb => by
        rcases List.mem_cons.mp hb with rfl | hb
        · exact .inl (by simp)
        · rw [List.mem_singleton.mp hb]; exact .inr hD)).trans g (fun b hb => by
        rcases List.mem_cons.mp hb with rfl | hb
        · exact .inl (by simp)
        · rw [List.mem_singleton.mp hb]; exact .inr hD)).done hD fD hDk
      refine ⟨_, rfl, q D kvs m t' _ _ upd_same hDk (tl.ex (Ex.new fD)) okm u1 u2 gd ?_⟩
      obtain ⟨f, c, r, cells, a1, a2, a3⟩ := hp'
      exact ⟨by rw [upd_ne nDp]; exact f, c, r, cells, a1, a2.ex (Ex.new fD), a3⟩
end
end TW
set_option Elab.async false
set_option linter.all false
set_option maxRecDepth 100000
set_option maxHeartbeats 8000000
/-! a drawn plain world -/
namespace TW
open PySem PySem.Spec PyProof.Rows L2 RZ StX
open Evl (Ex)
/-- a plain world -/
structure PlainOk (many : Int) (number : Nat) (sounds : List Str) (A : List Arr) (S : List Int) (m : Str → List Str) : Prop where
  so : sounds = (["a", "b"] : List Str) ∨ sounds = (["a", "b", "c"] : List Str) ∨ sounds = (["a", "b", "h"] : List Str)
  nd : A.Nodup
  len : A.length ≤ number
  ar : ∀ a ∈ A, 0 ≤ a.1 ∧ a.1 < many ∧ a.2.1 ∈ sounds ∧ 0 ≤ a.2.2 ∧ a.2.2 < many
  srt : S.Pairwise (· < ·)
  st : ∀ z ∈ S, 0 ≤ z ∧ z < many
  ne : S ≠ []
  sl : S.length ≤ 3
  mks : ∀ k ∈ sounds, okM sounds (m k)
theorem PlainOk.facts {sounds : List Str} (so : sounds = (["a", "b"] : List Str) ∨ sounds = (["a", "b", "c"] : List Str) ∨ sounds = (["a", "b", "h"] : List Str)) : sounds.Nodup ∧ 0 < sounds.length ∧ sounds.length ≤ 3 ∧ ("" : Str) ∉ sounds ∧ ∀ z ∈ sounds, PyData.strOk z = true ∧ z.length = 1 ∧ isSound (.str z) = true ∧ isHeard (.str z) = true := by
  rcases so with rfl | rfl | rfl <;> decide +kernel
def spLPlain (K : PySem.W.Frag) : Sp := fun vs H Q _ => ∃ (F : Hp) (p : Addr) (many : Int) (number : Nat) (t : Int), vs = [.ref p, .int many, .int number] ∧ Sees F H ∧ PenAt K F H p t ∧ t + 3 * number + 40 ≤ 1000000 ∧ 0 < many ∧ many < 1000 ∧ number ≤ 100 ∧
  ∀ (r a : Addr) (va vst : V) (kvs : List (Key × V)) (sounds : List Str) (A : List Arr) (S : List Int) (m : Str → List Str) (t' : Int) F' H', F' r = some (.tup [va, vst, .ref a]) → F' a = some (.dK kvs) → H' a = some (.dK kvs) → Dp K F' va (.list (A.map encA)) → Dp K F' vst (.list (S.map .int)) → Tells K F' kvs sounds m .list → PlainOk many number sounds A S m →
    t ≤ t' → t' ≤ t + 3 * number + 40 → Gr [p] F H F' H' → PenAt K F' H' p t' → Q (.ref r) H'
section
variable {P : Program} {w : World} {K : PySem.W.Frag} {mg : Str → Option Value} {base : Heap}
theorem ok_lplain {f : Addr} {fd : FuncData} (F : Fun K "_law_plain" "_law_plain" s__law_plain f fd) (T : Txt mg) (C__law_draw : Cal P w K mg base "_law_draw" 1 ["pen", "many"] [] (spDraw K)) (C__law_pick : Cal P w K mg base "_law_pick" 2 ["pen", "some"] [] (spPick K)) (C__law_arrows : Cal P w K mg base "_law_arrows" 3 ["pen", "many", "sounds", "number"] [] (spArrows K))
    (C__law_marks : Cal P w K mg base "_law_marks" 3 ["pen", "sounds", "is_wide"] [.bl false] (spLMarks K)) :
    FnOk P w K mg base CX0 4 f fd ["pen", "many", "number"] (spLPlain K) := by
  refine F.ok sc__law_plain (fun vs H Q E h => ?_) (fun cdv A outer s H vs Q E hr h => ?_)
  · obtain ⟨F0, p, many, number, t, rfl, _⟩ := h
    rfl
  · obtain ⟨F0, p, many, number, t, rfl, fs, hp, ht, m0, m1, n1, q⟩ := h
    have hu := hu_of hr
    have hu8 := hu8_of hr
    have lz : 100000 < sizeLine := by rw [sizeLine_eq]; decide
    refine ⟨_, (pss_cons (zs (i := 3) sc__law_plain.nd (pe_cal C__law_pick (hr.mono (by decide)) (pa_cons (pv 0) (pa_cons (pe_lst (pa_cons (pe_lst (pa_cons pe_str (pa_cons pe_str pa_nil))) (pa_cons (pe_lst (pa_cons pe_str (pa_cons pe_str (pa_cons pe_str pa_nil)))) (pa_cons (pe_lst (pa_cons pe_str (pa_cons pe_str (pa_cons pe_str pa_nil)))) pa_nil)))) pa_nil))))
      (pss_cons (zs (i := 4) sc__law_plain.nd (pe_cal C__law_arrows (hr.mono (by decide)) (pa_cons (pv 0) (pa_cons (pv 1) (pa_cons (pv 3) (pa_cons (pv 2) pa_nil))))))
      (pss_cons (zs (i := 5) sc__law_plain.nd (pe_callB (cr_sortedKI w hu8) (by rfl) T.sorted bt_sorted (pa_cons (pe_callTy (cr_setK K w) (by rfl) T.set bt_set (pa_cons (pe_op op_cat (pe_lst (pa_cons pe_int pa_nil)) (pe_lc (own := [("turn", 6)]) rfl sc__law_plain.nd (pi_range1 rfl T.range (pa_cons (pe_cal C__law_draw (hr.mono (by decide)) (pa_cons (pv 0) (pa_cons pe_int pa_nil))) pa_nil)) (blkOk_by (N := sc__law_plainN) (sc := defScope s__law_plain) (by decide +kernel)) (fun _ _ _ _ _ => (zg (i := 6) sc__law_plain.nd)) (fun _ _ _ _ _ => pts_nil) (fun _ _ _ _ _ => (pe_cal C__law_draw (hr.mono (by decide)) (pa_cons (pv 0) (pa_cons (pv 1) pa_nil)))))) pa_nil)) pa_nil)))
      (pss_one (ps_ret (pe_tup (pa_cons (pv 4) (pa_cons (pv 5) (pa_cons (pe_cal C__law_marks (hr.mono (by decide)) (pa_cons (pv 0) (pa_cons (pv 3) pa_nil))) pa_nil))))))))), ?_⟩
    obtain ⟨op, hpo⟩ := hp.at
    have par : ∀ {F' H' F'' H''}, Gr [] F' H' F'' H'' → PenAt K F' H' p t → PenAt K F'' H'' p t := fun g h => h.gr g (by simp)
    refine ⟨_, rfl, by show 2 ≤ sizeLine; omega, fun L1 hL1 => ⟨by show 3 ≤ sizeLine; omega, fun L2 hL2 => ⟨by show 3 ≤ sizeLine; omega, fun L3 hL3 => ⟨by show 3 ≤ sizeLine; omega, fun L4 hL4 => ?_⟩⟩⟩⟩
    have g1 := (Gr.refl (B := []) fs).new (o := .lst [.str "a", .str "b"]) hL1
    have g2 := g1.new (o := .lst [.str "a", .str "b", .str "c"]) hL2
    have g3 := g2.new (o := .lst [.str "a", .str "b", .str "h"]) hL3
    have g4 := g3.new (o := .lst [.ref L1, .ref L2, .ref L3]) hL4
    have d1 : Dp K (upd F0 L1 (.lst [.str "a", .str "b"])) (.ref L1) (.list ((["a", "b"] : List Str).map .str)) := .lst (.inl (.inl upd_same)) (.cons (.str _) (.cons (.str _) .nil))
    have d2 : Dp K (upd (upd F0 L1 (.lst [.str "a", .str "b"])) L2 (.lst [.str "a", .str "b", .str "c"])) (.ref L2) (.list ((["a", "b", "c"] : List Str).map .str)) := .lst (.inl (.inl upd_same)) (.cons (.str _) (.cons (.str _) (.cons (.str _) .nil)))
    have d3 : Dp K (upd (upd (upd F0 L1 (.lst [.str "a", .str "b"])) L2 (.lst [.str "a", .str "b", .str "c"])) L3 (.lst [.str "a", .str "b", .str "h"])) (.ref L3) (.list ((["a", "b", "h"] : List Str).map .str)) := .lst (.inl (.inl upd_same)) (.cons (.str _) (.cons (.str _) (.cons (.str _) .nil)))
    have x2 := Ex.new (o := HO.lst [.str "a", .str "b", .str "c"]) (g1.fh.dm hL2)
    have x3 := Ex.new (o := HO.lst [.str "a", .str "b", .str "h"]) (g2.fh.dm hL3)
    have x4 := Ex.new (o := HO.lst [.ref L1, .ref L2, .ref L3]) (g3.fh.dm hL4)
    have d4 : Dp K _ (.ref L4) (.list [.list ((["a", "b"] : List Str).map .str), .list ((["a", "b", "c"] : List Str).map .str), .list ((["a", "b", "h"] : List Str).map .str)]) := .lst (.inl (.inl (upd_same (H := upd (upd (upd F0 L1 (.lst [.str "a", .str "b"])) L2 (.lst [.str "a", .str "b", .str "c"])) L3 (.lst [.str "a", .str "b", .str "h"])))))
      (.cons (((d1.ex x2).ex x3).ex x4) (.cons ((d2.ex x3).ex x4) (.cons (d3.ex x4) .nil)))
    have hp4 := par g4 hp
    generalize upd (upd (upd (upd F0 L1 (.lst [.str "a", .str "b"])) L2 (.lst [.str "a", .str "b", .str "c"])) L3 (.lst [.str "a", .str "b", .str "h"])) L4 (.lst [.ref L1, .ref L2, .ref L3]) = F4 at g4 d4 hp4
    generalize upd (upd (upd (upd H L1 (.lst [.str "a", .str "b"])) L2 (.lst [.str "a", .str "b", .str "c"])) L3 (.lst [.str "a", .str "b", .str "h"])) L4 (.lst [.ref L1, .ref L2, .ref L3]) = H4 at g4 hp4 ⊢
    clear g1 g2 g3 d1 d2 d3 x2 x3 x4 hL1 hL2 hL3 hL4
    refine ⟨F4, p, _, _, _, t, rfl, g4.fh, hp4, by omega, d4, .inl rfl, by simp, by simp, fun v5 e5 t5 F5 H5 em hv5 u1 u2 g5 hp5 => ?_⟩
    obtain ⟨sounds, rfl, so⟩ : ∃ sounds : List Str, e5 = .list (sounds.map .str) ∧ (sounds = (["a", "b"] : List Str) ∨ sounds = (["a", "b", "c"] : List Str) ∨ sounds = (["a", "b", "h"] : List Str)) := by
      rcases List.mem_cons.mp em with rfl | em
      · exact ⟨_, rfl, .inl rfl⟩
      rcases List.mem_cons.mp em with rfl | em
      · exact ⟨_, rfl, .inr (.inl rfl)⟩
      · rw [List.mem_singleton.mp em]; exact ⟨_, rfl, .inr (.inr rfl)⟩
    obtain ⟨snd, s0, s3, sne, sOk⟩ := PlainOk.facts so
    have g05 : Gr [p] F0 H F5 H5 := (g4.mono (B' := [p]) (fun b hb => absurd hb (by simp))).trans g5 fun b hb => .inl hb
    -- arrows
    refine ⟨_, rfl, _, rfl, _, rfl, _, rfl, F5, p, v5, sounds, many, number, t5, rfl, g5.fh, hp5, by omega, m0, m1, by omega, hv5, s0, by omega, fun z hz => (sOk z hz).1, fun v6 AA t6 F6 H6 Ann Al Aok hv6 u3 u4 g6 hp6 => ?_⟩
    have g06 : Gr [p] F0 H F6 H6 := g05.trans g6 fun b hb => .inl hb
    -- starts
    refine ⟨by show 1 ≤ sizeLine; omega, fun L5 hL5 => ?_⟩
    have g7 := g06.newM (o := .lst [.int 0]) hL5
    have hp7 := hp6.upd' (o := .lst [.int 0]) (ne_of_none hp6.at.choose_spec hL5)
    have h7 : upd H6 L5 (.lst [.int 0]) L5 = some (.lst [.int 0]) := upd_same
    have fL5 := g06.fh.dm hL5
    have npL5 : p ≠ L5 := ne_of_none hp6.at.choose_spec hL5
    generalize upd H6 L5 (.lst [.int 0]) = H7 at g7 hp7 h7 ⊢
    refine ⟨_, rfl, F6, p, 2, t6, rfl, g7.fh, hp7, by omega, by decide, by decide, fun d8 t8 F8 H8 a1 a2 u5 u6 g8 hp8 => ⟨d8, rfl, by omega, by omega, fun D hD => ?_⟩⟩
    have g08 : Gr [p] F0 H F8 H8 := g7.trans g8 fun b hb => .inl hb
    have h8 : H8 L5 = some (.lst [.int 0]) := g8.hh L5 _ (by simpa using Ne.symm npL5) h7
    have fL8 := g8.none' fL5 (by rw [h7]; exact fun z => nomatch z)
    obtain ⟨o8, ho8⟩ := hp8.at
    refine lc_st (B := [p]) walk_range g8.fh (fun b hb => by rw [List.mem_singleton.mp hb, ho8]; exact fun z => nomatch z) (fun i acc F' H' => ∃ t' ns, acc = ns.map V.int ∧ (∀ z ∈ ns, 0 ≤ z ∧ z < many) ∧ ns.length ≤ i ∧ PenAt K F' H' p t' ∧ t8 ≤ t' ∧ t' ≤ t8 + i) (fun i acc F' H' D o ⟨t', ns, h1, h2, h3, h4, h5⟩ hDn => ⟨t', ns, h1, h2, h3, h4.upd' (ne_of_none ho8 hDn), h5⟩)
      (fun _ _ _ _ _ _ _ => True.intro) ⟨t8, [], rfl, by simp, by simp, hp8, Int.le_refl _, by omega⟩ (by omega) (fun i acc x F' H' H'' hi hl gr ⟨t', ns, h1, h2, h3, h4, h5, h6⟩ y => ?_) hD fun acc F9 H9 g9 fD9 hD9 ⟨t9, ns, h1, h2, h3, h4, h5, h6⟩ => ?_
    · obtain ⟨rfl, rfl⟩ := y
      subst h1
      refine ⟨F', Gr.refl gr.fh, true, turn1 rfl fun Yes h => ⟨_, rfl, _, rfl, F', p, many, t', rfl, gr.fh, h4, by omega, m0, by omega, fun z t2 F3 H3 z0 z1 w1 w2 g3 hp3 => h _ _ _ g3 ⟨t2, ns ++ [z], by rw [List.map_append]; rfl, fun y hy => ?_, by simp; omega, hp3, by omega, by omega⟩⟩⟩
      rcases List.mem_append.mp hy with hy | hy
      · exact h2 y hy
      · rw [List.mem_singleton.mp hy]; exact ⟨z0, z1⟩
    · subst h1
      have lns : ns.length ≤ 2 := by omega
      have h9 : H9 L5 = some (.lst [.int 0]) := g9.hh L5 _ (by simpa using Ne.symm npL5) h8
      refine ⟨L5, D, _, _, rfl, rfl, h9, hD9, by simp; omega, fun N hN => ?_⟩
      have g09 : Gr [p] F0 H F9 H9 := g08.trans g9 fun b hb => .inl hb
      have ga := g09.newM (o := .lst ([.int 0] ++ ns.map V.int)) hN
      refine ⟨N, (0 :: ns).map Sum.inl, rfl, .inl (by rw [keys_int]; exact .inl (.inl upd_same)), by simp; omega, fun q1 n hq1 hn hex => ?_⟩
      have gb := ga.newM (o := SKO w q1 ((0 :: ns).map Sum.inl) n) hq1
      refine ⟨q1, 0 :: ns, n, rfl, upd_same, fun S p4 srt mem len hp4' => ?_⟩
      have gc := gb.new (o := .lst (S.map V.int)) hp4'
      have hpc : PenAt K _ _ p t9 := ((h4.upd' (o := .lst ([.int 0] ++ ns.map V.int)) (ne_of_none h4.at.choose_spec hN)).upd' (o := SKO w q1 ((0 :: ns).map Sum.inl) n) (ne_of_none (by rw [upd_ne (ne_of_none h4.at.choose_spec hN)]; exact h4.at.choose_spec) hq1)).gr ((Gr.refl (B := []) gb.fh).new (o := .lst (S.map V.int)) hp4') (by simp)
      have ec : Ex F6 (upd F9 p4 (.lst (S.map V.int))) := (g8.ff.trans g9.ff).trans (Ex.new (gb.fh.dm hp4'))
      have hS : Dp K (upd F9 p4 (.lst (S.map V.int))) (.ref p4) (.list (S.map .int)) := .lst (.inl (.inl upd_same)) (dps_int.mpr rfl)
      generalize upd (upd (upd H9 N (.lst ([.int 0] ++ ns.map V.int))) q1 (SKO w q1 ((0 :: ns).map Sum.inl) n)) p4 (.lst (S.map V.int)) = Hc at gc hpc ⊢
      generalize upd F9 p4 (.lst (S.map V.int)) = Fc at gc hpc ec hS
      have Sl : S.length ≤ 3 := by
        have z := nodup_le (l := S) (m := 0 :: ns) (srt.imp fun h e => Int.ne_of_lt h e) fun y hy => (mem y).mp hy
        simp at z
        omega
      -- marks
      refine ⟨_, rfl, _, rfl, _, rfl, _, rfl, Fc, p, v5, sounds, t9, false, rfl, gc.fh, hpc, (hv5.ex g6.ff).ex ec, snd, s0, by omega, by omega, sne, fun z => (nomatch z), fun a kvs m t10 Fd Hd fa ha tl okm u7 u8 gd hpd => ⟨by show 3 ≤ sizeLine; omega, fun r hr' => ?_⟩⟩
      have ge := (gc.trans gd fun b hb => .inl hb).new (o := .tup [v6, .ref p4, .ref a]) hr'
      have xe := Ex.new (o := HO.tup [v6, .ref p4, .ref a]) (gd.fh.dm hr')
      refine q r a v6 (.ref p4) kvs sounds AA S m t10 _ _ upd_same (xe _ _ fa) (by rw [upd_ne (ne_of_none ha hr')]; exact ha) (((hv6.ex ec).ex gd.ff).ex xe) ((hS.ex gd.ff).ex xe) (tl.ex xe) ⟨so, Ann, Al, Aok, srt, fun z hz => ?_, fun e => ?_, Sl, fun k hk => by have z := okm k hk; unfold pool at z; simpa using z⟩ (by omega) (by omega) ge (hpd.gr ((Gr.refl (B := []) gd.fh).new hr') (by simp))
      · rcases List.mem_cons.mp ((mem z).mp hz) with rfl | hz
        · exact ⟨Int.le_refl _, m0⟩
        · exact h2 z hz
      · have := (mem 0).mpr (by simp)
        rw [e] at this
        simp at this
end
end TW
set_option Elab.async false
set_option linter.all false
set_option maxRecDepth 100000
set_option maxHeartbeats 16000000
/-! all talks listed -/
namespace TW
open PySem PySem.Spec PyProof.Rows L2 RZ StX
open Evl (Ex)
theorem hu2_of {A : Around} {k : Nat} (hr : Room k A) : A.units + 2 < cLine := by have := hr.un; omega
theorem hu3_of {A : Around} {k : Nat} (hr : Room k A) : A.units + 3 < cLine := by have := hr.un; omega
section
variable {X : Cx}
theorem op_catAK (K : PySem.W.Frag) (hK : X.K = K := by rfl) : OpR X (binaryOp .Add) (rCatA K) := by
  subst hK
  exact op_catA
theorem set_nP (P : Program) (w : World) (hu : X.A.units + 2 < cLine) (hP : X.prog = P := by rfl) (hw : X.w = w := by rfl) : PSet X (rSetN P w) := by
  subst hP hw
  exact set_n hu
theorem pe_dnewNP {pos : Pos} (P : Program) (w : World) (hP : X.prog = P := by rfl) (hw : X.w = w := by rfl) : PE X (.Dict [] [] pos) (tDNewN P w) := by
  subst hP hw
  exact pe_dnewN
theorem cr_listNP (P : Program) (w : World) (hc : X.calm = true := by rfl) (hP : X.prog = P := by rfl) (hw : X.w = w := by rfl) : CallR X (.type "list") (rListN P w) := by
  subst hP hw
  exact cr_listN hc
theorem cr_setUP (K : PySem.W.Frag) (P : Program) (w : World) (hu : X.A.units + 3 < cLine) (hc : X.calm = true := by rfl) (hK : X.K = K := by rfl) (hP : X.prog = P := by rfl) (hw : X.w = w := by rfl) : CallR X (.type "set") (rSetU K P w) := by
  subst hP hw hK
  exact cr_setU hu hc
theorem cr_sortedUP (K : PySem.W.Frag) (P : Program) (w : World) (hu : X.A.units + 8 < cLine) (hc : X.calm = true := by rfl) (hK : X.K = K := by rfl) (hP : X.prog = P := by rfl) (hw : X.w = w := by rfl) : CallR X (.builtin "sorted") (rSortedU K P w) := by
  subst hP hw hK
  exact cr_sortedU hu hc
end
theorem sees_tup {F H : Hp} {a : Addr} {xs : List V} (s : Sees F H) (h : F a = some (.tup xs)) : H a = some (.tup xs) := (s a _ h).resolve_right fun ⟨_, _, e, _⟩ => nomatch e
theorem seq_lst {K : PySem.W.Frag} {F H : Hp} {a : Addr} {xs : List V} {R : It → Hp → Prop} (h : F a = some (.lst xs)) (s : Sees F H) (k : R (Itl K a) H) : rSeq K (.ref a) H R := .mk ⟨a, xs, rfl, .inl ⟨.inl (.inl (sees_lst s h)), k⟩⟩
/-- the pair of a place and a row, at its address -/
def RowT (F : Hp) (b : Addr) (x : PRow) : Prop := ∃ c, F b = some (.tup [.int x.1, .ref c]) ∧ F c = some (.tup (x.2.map V.str))
theorem RowT.ex {F F' : Hp} {b : Addr} {x : PRow} (r : RowT F b x) (e : Ex F F') : RowT F' b x := let ⟨c, h1, h2⟩ := r; ⟨c, e _ _ h1, e _ _ h2⟩
def kN (x : PRow) : NKey := (Sum.inl x.1, kS x.2)
theorem kN_inj {x y : PRow} (h : kN x = kN y) : x = y := by
  unfold kN at h
  injection h with h1 h2
  exact Prod.ext (Sum.inl.inj h1) (kS_inj _ _ h2)
theorem RowT.pair {F H : Hp} {b : Addr} {x : PRow} (r : RowT F b x) (s : Sees F H) : PairAt H (kN x) b := by
  obtain ⟨c, h1, h2⟩ := r
  exact ⟨c, sees_tup s h1, by show H c = some (.tup ((kS x.2).map kV)); rw [kS_V]; exact sees_tup s h2⟩
abbrev LineR (F : Hp) (vs : List V) (xs : List PRow) : Prop := Paired (fun v x => ∃ b, v = .ref b ∧ RowT F b x) vs xs
theorem LineR.ex {F F' : Hp} {vs : List V} {xs : List PRow} (r : LineR F vs xs) (e : Ex F F') : LineR F' vs xs := Paired.mapP r fun _ _ ⟨b, h1, h2⟩ => ⟨b, h1, h2.ex e⟩
/-- the values of found -/
abbrev ListV (F : Hp) (v : V) (ns : List Int) : Prop := ∃ L, v = .ref L ∧ F L = some (.lst (ns.map V.int))
/-- what found tells of a row -/
def look (m : List (List Str × List Int)) (row : List Str) : List Int := (aGet m row).getD []
theorem look_put (m : List (List Str × List Int)) (row r : List Str) (ns : List Int) : look (aPut m row ns) r = if r = row then ns else look m r := by
  unfold look
  rw [aGet_put]
  split <;> rfl
structure MOk (m : List (List Str × List Int)) (Seen : PRow → Prop) : Prop where
  nd : (m.map (·.1)).Nodup
  srt : ∀ r, (look m r).Pairwise (· < ·)
  mem : ∀ r p, p ∈ look m r ↔ Seen (p, r)
  ne : ∀ r ∈ m.map (·.1), look m r ≠ []
theorem MOk.congr {m : List (List Str × List Int)} {S T : PRow → Prop} (h : MOk m S) (e : ∀ x, S x ↔ T x) : MOk m T := ⟨h.nd, h.srt, fun r p => (h.mem r p).trans (e _), h.ne⟩
theorem MOk.put {m : List (List Str × List Int)} {S T : PRow → Prop} {p : Int} {row : List Str} {ns : List Int} (h : MOk m S) (srt : ns.Pairwise (· < ·)) (mem : ∀ z, z ∈ ns ↔ z ∈ look m row ++ [p]) (e : ∀ x, T x ↔ S x ∨ x = (p, row)) : MOk (aPut m row ns) T where
  nd := aPut_nodup h.nd _ _
  srt := fun r => by
    rw [look_put]
    split
    · exact srt
    · exact h.srt r
  mem := fun r q => by
    rw [look_put, e]
    by_cases c : r = row
    · subst c
      rw [if_pos rfl, mem, List.mem_append, List.mem_singleton, h.mem]
      exact or_congr Iff.rfl ⟨fun z => by rw [z], fun z => congrArg Prod.fst z⟩
    · rw [if_neg c, h.mem]
      exact ⟨.inl, fun z => z.resolve_right fun z => c (congrArg Prod.snd z)⟩
  ne := fun r m' => by
    rw [look_put]
    split
    · intro z
      have := (mem p).mpr (by simp)
      rw [z] at this
      exact nomatch this
    · rename_i c
      exact h.ne r ((mem_aPut.mp m').resolve_left c)
/-- rows of these marks, of at most two -/
def RowOk (M : List Str) (r : List Str) : Prop := r.length ≤ 2 ∧ ∀ k ∈ r, k ∈ M
def rows2 (M : List Str) : List (List Str) := [] :: (M.map (fun x => [x]) ++ M.flatMap fun x => M.map fun y => [x, y])
theorem mem_rows2 {M : List Str} {r : List Str} (h : RowOk M r) : r ∈ rows2 M := by
  obtain ⟨h1, h2⟩ := h
  match r, h1 with
  | [], _ => exact List.mem_cons_self
  | [x], _ => exact List.mem_cons_of_mem _ (List.mem_append_left _ (List.mem_map.mpr ⟨x, h2 x (by simp), rfl⟩))
  | [x, y], _ => exact List.mem_cons_of_mem _ (List.mem_append_right _ (List.mem_flatMap.mpr ⟨x, h2 x (by simp), List.mem_map.mpr ⟨y, h2 y (by simp), rfl⟩⟩))
theorem rows2_len (M : List Str) : (rows2 M).length ≤ 1 + M.length + M.length * M.length := by
  have z := flat_le (f := fun x => M.map fun y => [x, y]) (c := M.length) M fun x _ => by rw [List.length_map]; exact Nat.le_refl _
  unfold rows2
  rw [List.length_cons, List.length_append, List.length_map]
  omega
theorem MOk.few {m : List (List Str × List Int)} {S : PRow → Prop} {M : List Str} (h : MOk m S) (ok : ∀ x, S x → RowOk M x.2) (l : M.length ≤ 120) : m.length ≤ 20000 := by
  have z := nodup_le (l := m.map (·.1)) (m := rows2 M) h.nd fun r mr => by
    obtain ⟨p, mp⟩ : ∃ p, p ∈ look m r := List.exists_mem_of_ne_nil _ (h.ne r mr)
    exact mem_rows2 (ok (p, r) ((h.mem r p).mp mp))
  have z2 := rows2_len M
  have z3 : M.length * M.length ≤ 120 * 120 := Nat.mul_le_mul l l
  rw [List.length_map] at z
  omega
/-- what later holds -/
structure ZOk (zs : List (PRow × Addr)) (Made : PRow → Prop) : Prop where
  nd : (zs.map (·.1)).Nodup
  mem : ∀ x, x ∈ zs.map (·.1) ↔ Made x
theorem ZOk.congr {zs : List (PRow × Addr)} {S T : PRow → Prop} (h : ZOk zs S) (e : ∀ x, S x ↔ T x) : ZOk zs T := ⟨h.nd, fun x => (h.mem x).trans (e x)⟩
def zput (zs : List (PRow × Addr)) (x : PRow) (b : Addr) : List (PRow × Addr) := if x ∈ zs.map (·.1) then zs else zs ++ [(x, b)]
theorem ZOk.put {zs : List (PRow × Addr)} {S T : PRow → Prop} {x : PRow} (h : ZOk zs S) (b : Addr) (e : ∀ y, T y ↔ S y ∨ y = x) : ZOk (zput zs x b) T := by
  unfold zput
  by_cases c : x ∈ zs.map (·.1)
  · rw [if_pos c]
    exact ⟨h.nd, fun y => by rw [e, h.mem]; exact ⟨.inl, fun z => z.elim id fun z => by rw [z]; exact (h.mem x).mp c⟩⟩
  · rw [if_neg c]
    refine ⟨?_, fun y => ?_⟩
    · rw [List.map_append]
      exact List.nodup_append.mpr ⟨h.nd, by simp, fun a ha b hb e => c (by have z : b = x := (by simpa using hb); rw [← z, ← e]; exact ha)⟩
    · rw [List.map_append, List.mem_append, e, h.mem]
      simp
theorem zput_map (zs : List (PRow × Addr)) (x : PRow) (b : Addr) : putN (zs.map fun z => (kN z.1, z.2)) (kN x) b = (zput zs x b).map fun z => (kN z.1, z.2) := by
  have e : hasN (zs.map fun z => (kN z.1, z.2)) (kN x) = decide (x ∈ zs.map (·.1)) := by
    unfold hasN
    rw [List.any_map]
    induction zs with
    | nil => rfl
    | cons z zs ih =>
      rw [List.any_cons, ih, List.map_cons]
      by_cases c : z.1 = x
      · simp [c]
      · have c' : kN z.1 ≠ kN x := fun q => c (kN_inj q)
        simp [c, c', Ne.symm c]
  unfold putN zput
  rw [e]
  by_cases c : x ∈ zs.map (·.1)
  · rw [if_pos (decide_eq_true c), if_pos c]
  · rw [if_neg (by simpa using c), if_neg c, List.map_append]
    rfl
theorem mem_zput {zs : List (PRow × Addr)} {x : PRow} {b : Addr} {z : PRow × Addr} (h : z ∈ zput zs x b) : z ∈ zs ∨ z = (x, b) := by
  unfold zput at h
  split at h
  · exact .inl h
  · rcases List.mem_append.mp h with h | h
    · exact .inl h
    · exact .inr (List.mem_singleton.mp h)
theorem ZOk.few {zs : List (PRow × Addr)} {S : PRow → Prop} {M : List Str} {T : List Int} (h : ZOk zs S) (ok : ∀ x, S x → x.1 ∈ T ∧ RowOk M x.2) (l : M.length ≤ 120) (t : T.length ≤ 20) : zs.length ≤ 400000 := by
  have z := nodup_le (l := zs.map (·.1)) (m := T.flatMap fun q => (rows2 M).map fun r => (q, r)) h.nd fun x mx => by
    obtain ⟨o1, o2⟩ := ok x ((h.mem x).mp mx)
    exact List.mem_flatMap.mpr ⟨x.1, o1, List.mem_map.mpr ⟨x.2, mem_rows2 o2, rfl⟩⟩
  have z1 := flat_le (f := fun q => (rows2 M).map fun r => (q, r)) (c := (rows2 M).length) T fun x _ => by rw [List.length_map]; exact Nat.le_refl _
  have z2 := rows2_len M
  have z3 : M.length * M.length ≤ 120 * 120 := Nat.mul_le_mul l l
  have z4 : T.length * (rows2 M).length ≤ 20 * 20000 := Nat.mul_le_mul t (by omega)
  rw [List.length_map] at z
  omega
/-- either branch of a conditional call, told alike -/
theorem ite_q2 {c : Prop} [Decidable c] {A B S : VK → Prop} {Q : VK} (hA : c → ∀ Q, S Q → A Q) (hB : ¬ c → ∀ Q, S Q → B Q) (h : S Q) : if c then A Q else B Q := by
  by_cases q : c
  · rw [if_pos q]; exact hA q Q h
  · rw [if_neg q]; exact hB q Q h
/-- a row and what is heard: one tuple -/
theorem cat_rows {K : PySem.W.Frag} {F H : Hp} {c t : Addr} {row e : List Str} {Q : VK} (s : Sees F H) (hc : F c = some (.tup (row.map V.str))) (ht : F t = some (.tup (e.map V.str))) (l : row.length + e.length ≤ 100)
    (q : ∀ r F' H', Gr [] F H F' H' → F' r = some (.tup ((row ++ e).map V.str)) → Q (.ref r) H') : rCatA K (.ref c) (.ref t) H Q := by
  have lz : 100 ≤ sizeLine := by rw [sizeLine_eq]; decide
  refine ⟨c, t, _, _, rfl, rfl, .inl (.inl (sees_tup s hc)), .inl (.inl (sees_tup s ht)), by rw [List.length_map, List.length_map]; omega, fun z => ?_, fun _ z => ?_, fun _ _ p hp => ?_⟩
  · obtain rfl := List.map_eq_nil_iff.mp z
    exact q t F H (Gr.refl s) ht
  · obtain rfl := List.map_eq_nil_iff.mp z
    exact q c F H (Gr.refl s) (by rw [List.append_nil]; exact hc)
  · exact q p _ _ ((Gr.refl s).new hp) (by rw [List.map_append]; exact upd_same)
/-- one arrow on, by the arrow -/
def NxtA (m : Str → List Str) (b : Arr) (x y : PRow) : Prop := b.1 = x.1 ∧ ∃ k ∈ m b.2.1, y = (b.2.2, x.2 ++ ext1 k) ∧ y.2.length ≤ 2
theorem nxt_a {m : Str → List Str} {A : List Arr} {x y : PRow} : Nxt (trip m A) x y ↔ ∃ b ∈ A, NxtA m b x y := by
  constructor
  · rintro ⟨k, e, e2, l⟩
    obtain ⟨z, z1, z2⟩ := mem_trip.mp e
    exact ⟨_, z1, rfl, k, z2, Prod.ext rfl e2, l⟩
  · rintro ⟨b, hb, e, k, hk, rfl, l⟩
    exact ⟨k, mem_trip.mpr ⟨b.2.1, by rw [← e]; exact hb, hk⟩, rfl, l⟩
/-- while the talks are listed: found at D, later at E -/
structure LSt (P : Program) (w : World) (D E : Addr) (F H F' H' : Hp) (kvs : List (List Key × V)) (m : List (List Str × List Int)) (zs : List (PRow × Addr)) : Prop where
  g : Gr [D, E] F H F' H'
  fD : F' D = none
  fE : F' E = none
  hD : H' D = some (.dT kvs)
  mq : MapQ kS (ListV F') kvs m
  hE : H' E = some (DNO P w E (zs.map fun z => (kN z.1, z.2)))
  zt : ∀ z ∈ zs, RowT F' z.2 z.1
theorem LSt.gr {P : Program} {w : World} {D E : Addr} {F H F' H' F2 H2 : Hp} {kvs : List (List Key × V)} {m : List (List Str × List Int)} {zs : List (PRow × Addr)} (h : LSt P w D E F H F' H' kvs m zs) (g : Gr [] F' H' F2 H2) : LSt P w D E F H F2 H2 kvs m zs where
  g := h.g.trans g
  fD := g.none' h.fD (by rw [h.hD]; exact fun z => nomatch z)
  fE := g.none' h.fE (by rw [h.hE]; exact fun z => nomatch z)
  hD := g.at h.hD
  mq := h.mq.up fun v b ⟨L, h1, h2⟩ => ⟨L, h1, g.ff _ _ h2⟩
  hE := g.at h.hE
  zt := fun z mz => (h.zt z mz).ex g.ff
theorem LSt.neDE {P : Program} {w : World} {D E : Addr} {F H F' H' : Hp} {kvs : List (List Key × V)} {m : List (List Str × List Int)} {zs : List (PRow × Addr)} (h : LSt P w D E F H F' H' kvs m zs) : D ≠ E := ne_of h.hD h.hE (fun z => nomatch z)
theorem LSt.put {P : Program} {w : World} {D E : Addr} {F H F' H' : Hp} {kvs : List (List Key × V)} {m : List (List Str × List Int)} {zs : List (PRow × Addr)} (h : LSt P w D E F H F' H' kvs m zs) {row : List Str} {ns : List Int} {v : V} (hv : ListV F' v ns) :
    LSt P w D E F H F' (upd H' D (.dT (putK kvs (kS row) v))) (putK kvs (kS row) v) (aPut m row ns) zs where
  g := h.g.mut h.fD (.inl (by simp))
  fD := h.fD
  fE := h.fE
  hD := upd_same
  mq := h.mq.put kS_inj row hv
  hE := by rw [upd_ne (Ne.symm h.neDE)]; exact h.hE
  zt := h.zt
theorem LSt.zput {P : Program} {w : World} {D E : Addr} {F H F' H' : Hp} {kvs : List (List Key × V)} {m : List (List Str × List Int)} {zs : List (PRow × Addr)} (h : LSt P w D E F H F' H' kvs m zs) {x : PRow} {b : Addr} (r : RowT F' b x) :
    LSt P w D E F H F' (upd H' E (DNO P w E (putN (zs.map fun z => (kN z.1, z.2)) (kN x) b))) kvs m (zput zs x b) where
  g := h.g.mut h.fE (.inl (by simp))
  fD := h.fD
  fE := h.fE
  hD := by rw [upd_ne h.neDE]; exact h.hD
  mq := h.mq
  hE := by rw [zput_map]; exact upd_same
  zt := fun z mz => by
    rcases mem_zput mz with mz | rfl
    · exact h.zt z mz
    · exact r
/-- all marks of the arrows -/
def marksOf (m : Str → List Str) (A : List Arr) : List Str := A.flatMap fun b => m b.2.1
theorem nxtA_ok {m : Str → List Str} {A : List Arr} {b : Arr} {x y : PRow} (hb : b ∈ A) (ok : RowOk (marksOf m A) x.2) (h : NxtA m b x y) : y.1 ∈ A.map (·.2.2) ∧ RowOk (marksOf m A) y.2 := by
  obtain ⟨_, k, hk, rfl, l⟩ := h
  refine ⟨List.mem_map.mpr ⟨b, hb, rfl⟩, l, fun z hz => ?_⟩
  rcases List.mem_append.mp hz with hz | hz
  · exact ok.2 z hz
  · unfold ext1 at hz
    split at hz
    · exact nomatch hz
    · rw [List.mem_singleton.mp hz]
      exact List.mem_flatMap.mpr ⟨b, hb, hk⟩
theorem lay_row {m : Str → List Str} {A : List Arr} {S : Int → Prop} : ∀ {n : Nat} {x : PRow}, Lay (trip m A) S n x → RowOk (marksOf m A) x.2
  | 0, x, h => by rw [h.2]; exact ⟨Nat.zero_le _, fun _ z => nomatch z⟩
  | n + 1, y, ⟨x, hx, st⟩ => by
    obtain ⟨b, hb, z⟩ := nxt_a.mp st
    exact (nxtA_ok hb (lay_row hx) z).2
theorem marks_few {m : Str → List Str} {A : List Arr} {ks : List Str} (sub : ∀ b ∈ A, b.2.1 ∈ ks) (l6 : ∀ k ∈ ks, (m k).length ≤ 6) (lA : A.length ≤ 20) : (marksOf m A).length ≤ 120 := by
  have z := flat_le (f := fun b : Arr => m b.2.1) (c := 6) A fun b hb => l6 _ (sub b hb)
  unfold marksOf
  omega
theorem paired_at {α β : Type} {R : α → β → Prop} : ∀ {as : List α} {bs : List β} {i : Nat} {a : α}, Paired R as bs → as[i]? = some a → ∃ b, bs[i]? = some b ∧ R a b
  | _, _, 0, _, .cons h _, e => by simp at e; subst e; exact ⟨_, rfl, h⟩
  | _, _, i + 1, _, .cons _ t, e => by
    obtain ⟨b, h1, h2⟩ := paired_at (i := i) t (by simpa using e)
    exact ⟨b, by simpa using h1, h2⟩
theorem lay_place {m : Str → List Str} {A : List Arr} {S : List Int} : ∀ {n : Nat} {x : PRow}, Lay (trip m A) (· ∈ S) n x → x.1 ∈ S ++ A.map (·.2.2)
  | 0, x, h => List.mem_append_left _ h.1
  | n + 1, y, ⟨x, hx, st⟩ => by
    obtain ⟨b, hb, z⟩ := nxt_a.mp st
    exact List.mem_append_right _ (nxtA_ok hb (lay_row hx) z).1
theorem MOk.look_few {m : List (List Str × List Int)} {S : PRow → Prop} {T : List Int} (h : MOk m S) (ok : ∀ x, S x → x.1 ∈ T) (row : List Str) : (look m row).length ≤ T.length :=
  nodup_le ((h.srt row).imp fun h e => Int.ne_of_lt h e) fun p mp => ok (p, row) ((h.mem row p).mp mp)
theorem line_of {F : Hp} : ∀ {zs : List (PRow × Addr)}, (∀ z ∈ zs, RowT F z.2 z.1) → LineR F ((zs.map fun z => (kN z.1, z.2)).map fun x => V.ref x.2) (zs.map (·.1))
  | [], _ => .nil
  | z :: zs, h => .cons ⟨z.2, rfl, h z List.mem_cons_self⟩ (line_of fun y my => h y (List.mem_cons_of_mem _ my))
end TW
set_option Elab.async false
set_option linter.all false
set_option maxRecDepth 100000
set_option maxHeartbeats 16000000
/-! all talks listed: the walk -/
namespace TW
open PySem PySem.Spec PyProof.Rows L2 RZ StX
open Evl (Ex)
def spTalks (K : PySem.W.Frag) : Sp := fun vs H Q _ => ∃ (F : Hp) (va vst : V) (a : Addr) (kvs0 : List (Key × V)) (ks : List Str) (m : Str → List Str) (A : List Arr) (S : List Int) (steps : Nat), vs = [va, vst, .ref a, .int steps, .int 2] ∧ Sees F H ∧ Dp K F va (.list (A.map encA)) ∧ Dp K F vst (.list (S.map .int)) ∧ F a = some (.dK kvs0) ∧ Tells K F kvs0 ks m .list ∧
  (∀ b ∈ A, b.2.1 ∈ ks) ∧ A.length ≤ 20 ∧ S.length ≤ 100 ∧ (∀ k ∈ ks, (m k).length ≤ 6) ∧ steps ≤ 1000 ∧
  ∀ (D : Addr) (kvs : List (List Key × V)) (mm : List (List Str × List Int)) F' H', F' D = some (.dT kvs) → H' D = some (.dT kvs) → MapQ kS (ListV F') kvs mm → MOk mm (fun x => ∃ k, k ≤ steps ∧ Lay (trip m A) (· ∈ S) k x) → Gr [] F H F' H' → Q (.ref D) H'
section
variable {P : Program} {w : World} {K : PySem.W.Frag} {mg : Str → Option Value} {base : Heap}
theorem ok_talks {f : Addr} {fd : FuncData} (F : Fun K "_law_listed" "_law_listed" s__law_listed f fd) (T : Txt mg) : FnOk P w K mg base CX0 1 f fd ["arrows", "starts", "marks", "steps", "length"] (spTalks K) := by
  refine F.ok sc__law_listed (fun vs H Q E h => ?_) (fun cdv A0 outer s H vs Q E hr h => ?_)
  · obtain ⟨F0, va, vst, a, kvs0, ks, m, A, S, steps, rfl, _⟩ := h
    rfl
  · obtain ⟨F0, va, vst, a, kvs0, ks, m, A, S, steps, rfl, fs, hA, hS, ha, tl, sub, lA, lS, l6, ls, q⟩ := h
    have hu := hu_of hr
    have hu2 := hu2_of hr
    have hu8 := hu8_of hr
    have lz : 1000000 < sizeLine := by rw [sizeLine_eq]; decide
    refine ⟨_, (pss_cons (zpar (i := 5) (j := 6) sc__law_listed.nd (pa_cons pe_dnewT (pa_cons (pe_lc (own := [("start", 7)]) rfl sc__law_listed.nd (zseq K (pv 1)) (blkOk_by (N := sc__law_listedN) (sc := defScope s__law_listed) (by decide +kernel)) (fun _ _ _ _ _ => (zg (i := 7) sc__law_listed.nd)) (fun _ _ _ _ _ => pts_nil) (fun _ _ _ _ _ => (pe_tup (pa_cons (pv 7) (pa_cons (pe_tup pa_nil) pa_nil))))) pa_nil)))
      (pss_cons (ps_for PassesOwn.never rfl (pi_range1 rfl T.range (pa_cons (pe_op op_add (pv 3) pe_int) pa_nil)) (zg (i := 8) sc__law_listed.nd)
        (pss_cons (zs (i := 9) sc__law_listed.nd (pe_dnewNP P w))
        (pss_cons (ps_for PassesOwn.never rfl (zseq K (pv 6)) (zpg (n := 2) K (pgs_cons (zg (i := 10) sc__law_listed.nd) (pgs_cons (zg (i := 11) sc__law_listed.nd) pgs_nil)))
          (pss_cons (ps_dput hu (pv 5) (pv 11) (pe_callB (cr_sortedKI w hu8) (by rfl) T.sorted bt_sorted (pa_cons (pe_callTy (cr_setK K w) (by rfl) T.set bt_set (pa_cons (pe_op op_cat (pe_dget2 hu (pv 5) (pv 11) (pe_lst pa_nil) (m2_of rfl)) (pe_lst (pa_cons (pv 10) pa_nil))) pa_nil)) pa_nil)) rfl)
          (pss_one (ps_for PassesOwn.never rfl (zseq K (pv 0)) (zpg (n := 3) K (pgs_cons (zg (i := 12) sc__law_listed.nd) (pgs_cons (zg (i := 13) sc__law_listed.nd) (pgs_cons (zg (i := 14) sc__law_listed.nd) pgs_nil))))
            (pss_one (ps_for PassesOwn.never rfl (zseq K (pe_ifExp (pt_cmpR op_eq (pv 12) (pv 10) (nomark _)) (pe_dget hu (pv 2) (pv 13) (fun _ _ => rfl)) (pe_lst pa_nil))) (zg (i := 15) sc__law_listed.nd)
              (pss_cons (zs (i := 16) sc__law_listed.nd (pe_op (op_catAK K) (pv 11) (pe_ifExp (pt_cmpR op_ne (pv 15) pe_str (nomark _)) (pe_tup (pa_cons (pv 15) pa_nil)) (pe_tup pa_nil))))
              (pss_one (ps_if (pt_cmpR op_le (pe_callB (cr_len K) (by rfl) T.len bt_len (pa_cons (pv 16) pa_nil)) (pv 4) (nomark _))
                (pss_one (ps_asg pe_bl (pg_sub (pv 9) (pe_tup (pa_cons (pv 14) (pa_cons (pv 16) pa_nil))) (set_nP P w hu2))))
                pss_nil)))))))))
        (pss_one (zs (i := 6) sc__law_listed.nd (pe_callTy (cr_listNP P w) (by rfl) T.list bt_list (pa_cons (pv 9) pa_nil)))))))
      (pss_one (ps_ret (pv 5))))), ?_⟩
    refine fun D hD => ?_
    have g0 := (Gr.refl (B := [D]) fs).newM (o := .dT []) hD
    have fD0 := fs.dm hD
    have hD0 : upd H D (.dT []) D = some (.dT []) := upd_same
    generalize upd H D (.dT []) = H1 at g0 hD0 ⊢
    refine ⟨_, rfl, seq_walk hS (.inl rfl) g0.fh fun J xs G w1 hG hxs hlen E0 hE0 => ?_⟩
    rw [hlen, List.length_map] at w1
    refine lc_st (B := []) w1 g0.fh (fun _ h => absurd h (by simp)) (fun i acc F' H' => LineR F' acc ((S.take i).map fun z => (z, ([] : List Str)))) (fun _ _ _ _ _ _ h _ => h) (fun i acc F' H' _ gr _ => hG H' (sees_gr gr)) .nil (by omega) (fun i acc x F' H' H'' hi hl gr pv y => ?_) hE0 fun acc F2 H2 g2 fE0 hE0c pv => ?_
    · obtain ⟨rfl, hxi⟩ := y
      obtain ⟨d, k1, k2⟩ := hxs.get hxi
      rw [List.getElem?_map] at k1
      obtain ⟨z, hz, rfl⟩ := Option.map_eq_some_iff.mp k1
      rw [dp_int] at k2
      subst k2
      refine ⟨F', Gr.refl gr.fh, true, turn1 rfl fun Yes h => ⟨_, rfl, Nat.zero_le _, fun c hc => ⟨by show 2 ≤ sizeLine; omega, fun b hb => h _ _ _ (((Gr.refl gr.fh).new hc).new hb) ?_⟩⟩⟩
      have tk : S.take (i + 1) = S.take i ++ [z] := by rw [List.take_add_one, hz]; rfl
      have gb := ((Gr.refl (B := []) gr.fh).new (o := .tup []) hc).new (o := .tup [.int z, .ref c]) hb
      rw [tk, List.map_append]
      exact Paired.snoc (pv.ex gb.ff) ⟨b, rfl, c, upd_same, by rw [upd_ne (ne_of_none (upd_same : upd H'' c (.tup []) c = _) hb)]; exact upd_same⟩
    rw [List.take_length] at pv
    have gL := (g0.trans g2).done (g0.dm _ hE0) fE0 hE0c
    have fD2 := g2.none' fD0 (by rw [hD0]; exact fun z => nomatch z)
    have hD2 := g2.at hD0
    have nDE : D ≠ E0 := fun e => by rw [← e, hD2] at hE0c; nomatch hE0c
    have fD3 : upd F2 E0 (.lst acc) D = none := by rw [upd_ne nDE]; exact fD2
    have fE3 : upd F2 E0 (.lst acc) E0 = some (.lst acc) := upd_same
    have pv := pv.ex (Ex.new (o := .lst acc) fE0)
    generalize upd F2 E0 (.lst acc) = F3 at gL fD3 fE3 pv
    clear g2 g0 hD0 w1 hG hxs hlen
    refine ⟨_, _, rfl, ?_⟩
    refine ⟨_, rfl, _, _, rfl, rfl, ((steps : Int) + 1), rfl, by omega, by omega, ?_⟩
    rw [show ((steps : Int) + 1).toNat = steps + 1 from by omega]
    have mf := marks_few sub l6 lA
    have tf : (A.map (·.2.2)).length ≤ 20 := by rw [List.length_map]; exact lA
    refine for_it walk_range (fun i σ' H' => ∃ (o7 o8 o9 o10 o11 o12 o13 o14 o15 o16 : Option V) (F' : Hp) (kvs : List (List Key × V)) (mm : List (List Str × List Int)) (Ln : Addr) (vs : List V) (xs : List PRow),
        σ' = [some va, some vst, some (.ref a), some (.int steps), some (.int 2), some (.ref D), some (.ref Ln), o7, o8, o9, o10, o11, o12, o13, o14, o15, o16] ∧ Gr [D] F0 H F' H' ∧ F' D = none ∧ H' D = some (.dT kvs) ∧ MapQ kS (ListV F') kvs mm ∧ F' Ln = some (.lst vs) ∧ LineR F' vs xs ∧
        (∀ x, x ∈ xs ↔ Lay (trip m A) (· ∈ S) i x) ∧ MOk mm (fun x => ∃ k, k < i ∧ Lay (trip m A) (· ∈ S) k x))
      ⟨none, none, none, none, none, none, none, none, none, none, F3, [], [], E0, acc, _, rfl, gL, fD3, hD2, .nil, fE3, pv, fun x => ?_, List.nodup_nil, fun _ => .nil, fun r p => ?_, fun _ z => (nomatch z)⟩ (fun _ _ _ _ _ => True.intro) ?_ ?_
    · rw [List.mem_map]
      constructor
      · rintro ⟨z, hz, rfl⟩
        exact ⟨hz, rfl⟩
      · rintro ⟨h1, h2⟩
        exact ⟨x.1, h1, Prod.ext rfl h2.symm⟩
    · exact ⟨fun z => (nomatch z), fun ⟨k, lt, _⟩ => absurd lt (Nat.not_lt_zero _)⟩
    · rintro i y σ' H' H'' hi ⟨o7, o8, o9, o10, o11, o12, o13, o14, o15, o16, F', kvs, mm, Ln, vs, xs, rfl, g, fD, hDk, mq, fLn, lr, hxs, mok⟩ ⟨rfl, rfl⟩
      refine fun E hE => ?_
      have n0 : H E = none := g.dm _ hE
      have nDE : D ≠ E := ne_of_none hDk hE
      have S0 : LSt P w D E F0 H F' (upd H'' E (DNO P w E [])) kvs mm [] := ⟨(g.mono (B' := [D, E]) fun b hb => .inl (by rw [List.mem_singleton.mp hb]; simp)).newM hE, fD, g.fh.dm hE, by rw [upd_ne nDE]; exact hDk, mq, upd_same, fun z mz => (nomatch mz)⟩
      generalize upd H'' E (DNO P w E []) = H4 at S0 ⊢
      refine ⟨_, rfl, seq_lst fLn S0.g.fh ?_⟩
      refine for_it walk_list (fun k σ' H' => ∃ (o10 o11 o12 o13 o14 o15 o16 : Option V) (F5 : Hp) (kvs : List (List Key × V)) (mm : List (List Str × List Int)) (zs : List (PRow × Addr)),
          σ' = [some va, some vst, some (.ref a), some (.int steps), some (.int 2), some (.ref D), some (.ref Ln), o7, some (.int (0 + (i : Int))), some (.ref E), o10, o11, o12, o13, o14, o15, o16] ∧ LSt P w D E F0 H F5 H' kvs mm zs ∧ Ex F' F5 ∧
          MOk mm (fun x => (∃ k, k < i ∧ Lay (trip m A) (· ∈ S) k x) ∨ x ∈ xs.take k) ∧ ZOk zs (fun y => ∃ x ∈ xs.take k, Nxt (trip m A) x y))
        ⟨o10, o11, o12, o13, o14, o15, o16, F', kvs, mm, [], rfl, S0, Ex.refl _, mok.congr fun x => by simp, ⟨List.nodup_nil, fun x => by simp⟩⟩ (fun k σ' H' _ ⟨_, _, _, _, _, _, _, F5, _, _, _, _, st, ex, _⟩ => .inl (.inl (sees_lst st.g.fh (ex _ _ fLn)))) ?_ ?_
      · rintro k y σ' H5 H6 hk ⟨o10, o11, o12, o13, o14, o15, o16, F5, kvs, mm, zs, rfl, st, ex, mok, zok⟩ ⟨rfl, hyk⟩
        obtain ⟨x, hx, b, rfl, rt⟩ := paired_at lr hyk
        obtain ⟨c, f1, f2⟩ := id (rt.ex ex)
        obtain ⟨pl, row⟩ := x
        dsimp only at f1 f2
        have lx := (hxs _).mp (List.mem_of_getElem? hx)
        have rok := lay_row lx
        refine ⟨b, _, rfl, .inl (.inl (sees_tup st.g.fh f1)), rfl, _, _, rfl, _, _, rfl, rfl, ?_⟩
        -- found[row]
        refine ⟨_, rfl, D, rfl, .inr ⟨kvs, .inl st.hD⟩, _, rfl, Nat.zero_le _, fun L0 hL0 => ?_⟩
        have gA := (Gr.refl (B := []) st.g.fh).new (o := .lst []) hL0
        have stA := st.gr gA
        have fL0 : upd F5 L0 (.lst []) L0 = some (.lst []) := upd_same
        have f1A := gA.ff _ _ f1
        have f2A := gA.ff _ _ f2
        generalize upd H6 L0 (.lst []) = H7 at gA stA ⊢
        generalize upd F5 L0 (.lst []) = F7 at gA stA fL0 f1A f2A
        have hcA : H7 c = some (.tup ((kS row).map kV)) := by rw [kS_V]; exact sees_tup stA.g.fh f2A
        refine ⟨_, DGet.t stA.hD hcA, ?_⟩
        have old : ∃ L, (valV kvs (kS row)).getD (.ref L0) = .ref L ∧ F7 L = some (.lst ((look mm row).map V.int)) := by
          unfold look
          rcases MapQ.get kS_inj stA.mq row with ⟨h1, h2⟩ | ⟨ns, v, h1, h2, L, h3, h4⟩
          · rw [h1, h2]
            exact ⟨L0, rfl, fL0⟩
          · rw [h1, h2]
            exact ⟨L, h3, h4⟩
        obtain ⟨L, eL, fL⟩ := old
        rw [eL]
        dsimp only [List.set_cons_zero, List.set_cons_succ]
        have seen : ∀ x, ((∃ k, k < i ∧ Lay (trip m A) (· ∈ S) k x) ∨ x ∈ xs.take k) → ∃ n, Lay (trip m A) (· ∈ S) n x := fun x z => by
          rcases z with ⟨j, _, z⟩ | z
          · exact ⟨j, z⟩
          · exact ⟨i, (hxs x).mp (List.mem_of_mem_take z)⟩
        have lk := mok.look_few (T := S ++ A.map (·.2.2)) (fun x z => let ⟨_, z⟩ := seen x z; lay_place z) row
        rw [List.length_append, List.length_map] at lk
        have few := mok.few (M := marksOf m A) (fun x z => let ⟨_, z⟩ := seen x z; lay_row z) mf
        refine ⟨_, rfl, by show 1 ≤ sizeLine; omega, fun L1 hL1 => ?_⟩
        have gB := (Gr.refl (B := []) stA.g.fh).newM (o := .lst [.int pl]) hL1
        have hL := sees_lst stA.g.fh fL
        refine ⟨L, L1, _, _, rfl, rfl, by rw [upd_ne (ne_of_none hL hL1)]; exact hL, upd_same, by simp; omega, fun N hN => ?_⟩
        have gC := gB.newM (o := .lst ((look mm row).map V.int ++ [.int pl])) hN
        refine ⟨N, (look mm row ++ [pl]).map Sum.inl, rfl, .inl (by rw [keys_int, List.map_append]; exact .inl (.inl upd_same)), by simp; omega, fun q1 n hq1 hn hex => ?_⟩
        have gD := gC.newM (o := SKO w q1 ((look mm row ++ [pl]).map Sum.inl) n) hq1
        refine ⟨q1, look mm row ++ [pl], n, rfl, upd_same, fun ns p4 srt mem len hp4 => ?_⟩
        have gE := gD.new (o := .lst (ns.map V.int)) hp4
        have stE := stA.gr gE
        have fp4 : upd F7 p4 (.lst (ns.map V.int)) p4 = some (.lst (ns.map V.int)) := upd_same
        have f1E := gE.ff _ _ f1A
        have f2E := gE.ff _ _ f2A
        have exE : Ex F' (upd F7 p4 (.lst (ns.map V.int))) := (ex.trans gA.ff).trans gE.ff
        generalize upd (upd (upd (upd H7 L1 (.lst [.int pl])) N (.lst ((look mm row).map V.int ++ [.int pl]))) q1 (SKO w q1 ((look mm row ++ [pl]).map Sum.inl) n)) p4 (.lst (ns.map V.int)) = H8 at gE stE ⊢
        generalize upd F7 p4 (.lst (ns.map V.int)) = F8 at gE stE fp4 f1E f2E exE
        clear gB gC gD hL hL1 hN hq1 hp4 fL eL fL0 hcA stA f1A f2A gA gE st
        have lkv := MapQ.len stE.mq
        refine ⟨_, rfl, _, rfl, D, _, rfl, DPut.t (k := kS row) stE.hD (by rw [kS_V]; exact sees_tup stE.g.fh f2E) (by omega), ?_⟩
        have tk : xs.take (k + 1) = xs.take k ++ [(pl, row)] := by rw [List.take_add_one, hx]; rfl
        have mokF := mok.put (T := fun x => (∃ k, k < i ∧ Lay (trip m A) (· ∈ S) k x) ∨ x ∈ xs.take (k + 1)) srt mem fun x => by
          rw [tk, List.mem_append, List.mem_singleton]
          exact or_assoc.symm
        have stF := stE.put (row := row) (ns := ns) ⟨p4, rfl, fp4⟩
        generalize upd H8 D (.dT (putK kvs (kS row) (V.ref p4))) = H9 at stF ⊢
        generalize putK kvs (kS row) (V.ref p4) = kvs9 at stF
        generalize aPut mm row ns = mm9 at stF mokF
        clear stE fp4 mok lk few lkv
        have eA : Ex F0 F8 := stF.g.ff
        -- the arrows
        refine ⟨_, rfl, seq_walk (hA.ex eA) (.inl rfl) stF.g.fh fun J2 xs2 G2 w2 hG2 hxs2 hlen2 => ?_⟩
        rw [hlen2, List.length_map] at w2
        refine for_it w2 (fun j σ' H' => ∃ (o12 o13 o14 o15 o16 : Option V) (F10 : Hp) (zs : List (PRow × Addr)),
            σ' = [some va, some vst, some (.ref a), some (.int steps), some (.int 2), some (.ref D), some (.ref Ln), o7, some (.int (0 + (i : Int))), some (.ref E), some (.int pl), some (.ref c), o12, o13, o14, o15, o16] ∧ LSt P w D E F0 H F10 H' kvs9 mm9 zs ∧ Ex F8 F10 ∧
            ZOk zs (fun y => (∃ x ∈ xs.take k, Nxt (trip m A) x y) ∨ ∃ b ∈ A.take j, NxtA m b (pl, row) y))
          ⟨o12, o13, o14, o15, o16, F8, zs, rfl, stF, Ex.refl _, zok.congr fun y => by simp⟩ (fun j σ' H' _ ⟨_, _, _, _, _, F10, _, _, st, ex2, _⟩ => hG2 H' fun a o e => st.g.fh a o (ex2 a o e)) ?_ ?_
        · rintro j y σ' H10 H11 hj ⟨o12, o13, o14, o15, o16, F10, zs, rfl, st, ex2, zok⟩ ⟨rfl, hyj⟩
          obtain ⟨d, k1, k2⟩ := hxs2.get hyj
          rw [List.getElem?_map] at k1
          obtain ⟨bb, hbb, rfl⟩ := Option.map_eq_some_iff.mp k1
          have bA := List.mem_of_getElem? hbb
          obtain ⟨T1, xs1, rfl, hT, hx1⟩ := dp_tup (show Dp K F8 y (.tuple [.int bb.1, .str bb.2.1, .int bb.2.2]) from k2)
          obtain rfl := dps3 hx1
          refine ⟨T1, _, rfl, sees_t st.g.fh (Evl.ex_t ex2 hT), rfl, _, _, rfl, _, _, rfl, _, _, rfl, rfl, ?_⟩
          dsimp only [List.set_cons_zero, List.set_cons_succ]
          obtain ⟨L, hLd⟩ : ∃ L, L = if bb.1 = pl then m bb.2.1 else [] := ⟨_, rfl⟩
          have bks := sub bb bA
          refine ⟨_, rfl, _, rfl, rfl, _, rfl, ite_q2 (A := fun Q => tDGet (tVar 2) (tVar 13) _ _ Q) (B := fun Q => tLst tNil _ _ Q) (S := fun Q => ∀ v F2 H2, Gr [] F10 H11 F2 H2 → Dp K F2 v (.list (L.map .str)) → Q v H2) (fun cc Q h => ?_) (fun cc Q h => ?_) fun v F11 H12 g11 hv => ?_⟩
          · have e : bb.1 = pl := by simpa using cc
            rw [if_pos e] at hLd
            subst hLd
            obtain ⟨v', v1, v2⟩ := tl.va bb.2.1 bks
            have eF : Ex F0 F10 := eA.trans ex2
            exact ⟨_, rfl, _, rfl, a, v', rfl, .inl ⟨kvs0, Sum.inr bb.2.1, sees_d st.g.fh (eF _ _ ha), rfl, v1.symm⟩, h v' F10 H11 (Gr.refl st.g.fh) (v2.ex eF)⟩
          · have e : bb.1 ≠ pl := by simpa using cc
            rw [if_neg e] at hLd
            subst hLd
            exact ⟨Nat.zero_le _, fun L2 hL2 => h _ _ _ ((Gr.refl st.g.fh).new hL2) (.lst (.inl (.inl upd_same)) .nil)⟩
          have st11 := st.gr g11
          have ex11 : Ex F8 F11 := ex2.trans g11.ff
          clear st g11 hT
          refine seq_walk hv (.inl rfl) st11.g.fh fun J3 xs3 G3 w3 hG3 hxs3 hlen3 => ?_
          rw [hlen3, List.length_map] at w3
          refine for_it w3 (fun n σ' H' => ∃ (o15 o16 : Option V) (F12 : Hp) (zs : List (PRow × Addr)),
              σ' = [some va, some vst, some (.ref a), some (.int steps), some (.int 2), some (.ref D), some (.ref Ln), o7, some (.int (0 + (i : Int))), some (.ref E), some (.int pl), some (.ref c), some (.int bb.1), some (.str bb.2.1), some (.int bb.2.2), o15, o16] ∧ LSt P w D E F0 H F12 H' kvs9 mm9 zs ∧ Ex F11 F12 ∧
              ZOk zs (fun y => ((∃ x ∈ xs.take k, Nxt (trip m A) x y) ∨ ∃ b ∈ A.take j, NxtA m b (pl, row) y) ∨ ∃ kk ∈ L.take n, y = (bb.2.2, row ++ ext1 kk) ∧ y.2.length ≤ 2))
            ⟨o15, o16, F11, zs, rfl, st11, Ex.refl _, zok.congr fun y => by simp⟩ (fun n σ' H' _ ⟨_, _, F12, _, _, st, ex3, _⟩ => hG3 H' fun a o e => st.g.fh a o (ex3 a o e)) ?_ ?_
          · rintro n y σ' H12' H13 hn ⟨o15, o16, F12, zs, rfl, st, ex3, zok⟩ ⟨rfl, hyn⟩
            obtain ⟨d, k1, k2⟩ := hxs3.get hyn
            rw [List.getElem?_map] at k1
            obtain ⟨mk, hmk, rfl⟩ := Option.map_eq_some_iff.mp k1
            rw [dp_str] at k2
            subst k2
            dsimp only [List.set_cons_zero, List.set_cons_succ]
            have mL := List.mem_of_getElem? hmk
            have tkL : L.take (n + 1) = L.take n ++ [mk] := by rw [List.take_add_one, hmk]; rfl
            have eb : bb.1 = pl ∧ mk ∈ m bb.2.1 := by
              rw [hLd] at mL
              split at mL
              · rename_i e; exact ⟨e, mL⟩
              · exact nomatch mL
            have l1 : (ext1 mk).length ≤ 1 := by unfold ext1; split <;> simp
            have rl : row.length ≤ 2 := rok.1
            refine ⟨_, rfl, _, rfl, rfl, _, rfl, ite_q2 (A := fun Q => tTup (tCons (tVar 15) tNil) _ _ Q) (B := fun Q => tTup tNil _ _ Q) (S := fun Q => ∀ t F2 H2, Gr [] F12 H13 F2 H2 → F2 t = some (.tup ((ext1 mk).map V.str)) → Q (.ref t) H2) (fun cc Q h => ?_) (fun cc Q h => ?_) fun t F13 H14 g13 ht => ?_⟩
            · have e : mk ≠ "" := by simpa using cc
              exact ⟨_, rfl, by show 1 ≤ sizeLine; omega, fun t ht => h t _ _ ((Gr.refl st.g.fh).new ht) (by unfold ext1; rw [if_neg e]; exact upd_same)⟩
            · have e : mk = "" := by simpa using cc
              exact ⟨Nat.zero_le _, fun t ht => h t _ _ ((Gr.refl st.g.fh).new ht) (by unfold ext1; rw [if_pos e]; exact upd_same)⟩
            have st13 := st.gr g13
            have ex13 : Ex F8 F13 := (ex11.trans ex3).trans g13.ff
            refine cat_rows st13.g.fh (ex13 _ _ f2E) ht (by show row.length + _ ≤ 100; omega) fun r F14 H15 g14 hr' => ?_
            have st14 := st13.gr g14
            have ex14 : Ex F11 F14 := (ex3.trans g13.ff).trans g14.ff
            clear st st13 g13 g14 ht
            dsimp only [List.set_cons_zero, List.set_cons_succ]
            refine ⟨_, rfl, len_dp (.tup (.inl (.inl hr')) (dps_str.mpr rfl)) (.inr rfl) st14.g.fh ⟨_, rfl, _, _, rfl, rfl, _, rfl, ?_⟩⟩
            have lr' : (row ++ ext1 mk).length ≤ 3 := by rw [List.length_append]; omega
            by_cases l2 : (row ++ ext1 mk).length ≤ 2
            · refine iteYes (decide_eq_true (by rw [List.length_map]; omega)) ?_
              refine ⟨_, rfl, _, rfl, _, rfl, by show 2 ≤ sizeLine; omega, fun p hp => ?_⟩
              have g15 := (Gr.refl (B := []) st14.g.fh).new (o := .tup [.int bb.2.2, .ref r]) hp
              have st15 := st14.gr g15
              have rt15 : RowT (upd F14 p (.tup [.int bb.2.2, .ref r])) p (bb.2.2, row ++ ext1 mk) := ⟨r, upd_same, g15.ff _ _ hr'⟩
              have ex15 := ex14.trans g15.ff
              generalize upd H15 p (.tup [.int bb.2.2, .ref r]) = H16 at st15 ⊢
              generalize upd F14 p (.tup [.int bb.2.2, .ref r]) = F15 at st15 rt15 ex15
              have zfew := zok.few (T := A.map (·.2.2)) (M := marksOf m A) (fun y z => by
                rcases z with (⟨x', mx, z⟩ | ⟨b', mb, z⟩) | ⟨kk, mkk, rfl, z⟩
                · obtain ⟨b', mb, z⟩ := nxt_a.mp z
                  exact nxtA_ok mb (lay_row ((hxs x').mp (List.mem_of_mem_take mx))) z
                · exact nxtA_ok (List.mem_of_mem_take mb) rok z
                · have mL' := List.mem_of_mem_take mkk
                  rw [hLd, if_pos eb.1] at mL'
                  exact nxtA_ok bA rok ⟨eb.1, kk, mL', rfl, z⟩) mf tf
              refine ⟨E, p, kN (bb.2.2, row ++ ext1 mk), _, rfl, rfl, rfl, st15.hE, rt15.pair st15.g.fh, fun y my => ?_, by rw [List.length_map]; omega, ?_⟩
              · obtain ⟨z, mz, rfl⟩ := List.mem_map.mp my
                exact (st15.zt z mz).pair st15.g.fh
              · refine ⟨_, _, F15, _, rfl, st15.zput rt15, ex15, zok.put p fun y => ?_⟩
                rw [tkL]
                constructor
                · rintro (z | ⟨kk, mkk, e, l⟩)
                  · exact .inl (.inl z)
                  · rcases List.mem_append.mp mkk with mkk | mkk
                    · exact .inl (.inr ⟨kk, mkk, e, l⟩)
                    · rw [List.mem_singleton.mp mkk] at e
                      exact .inr e
                · rintro ((z | ⟨kk, mkk, e, l⟩) | e)
                  · exact .inl z
                  · exact .inr ⟨kk, List.mem_append_left _ mkk, e, l⟩
                  · exact .inr ⟨mk, by simp, e, by rw [e]; exact l2⟩
            · refine iteNo (fun z => l2 (by have z2 := of_decide_eq_true z; rw [List.length_map] at z2; omega)) ?_
              refine ⟨_, _, F14, zs, rfl, st14, ex14, zok.congr fun y => ?_⟩
              rw [tkL]
              constructor
              · rintro (z | ⟨kk, mkk, e, l⟩)
                · exact .inl z
                · exact .inr ⟨kk, List.mem_append_left _ mkk, e, l⟩
              · rintro (z | ⟨kk, mkk, e, l⟩)
                · exact .inl z
                · rcases List.mem_append.mp mkk with mkk | mkk
                  · exact .inr ⟨kk, mkk, e, l⟩
                  · rw [List.mem_singleton.mp mkk] at e
                    rw [e] at l
                    exact absurd l l2
          · rintro σ' H12' ⟨o15, o16, F12, zs, rfl, st, ex3, zok⟩
            have tkA : A.take (j + 1) = A.take j ++ [bb] := by rw [List.take_add_one, hbb]; rfl
            refine ⟨_, _, _, _, _, F12, zs, rfl, st, ex11.trans ex3, zok.congr fun y => ?_⟩
            rw [List.take_length, tkA]
            constructor
            · rintro ((z | ⟨b', mb, z⟩) | ⟨kk, mkk, e, l⟩)
              · exact .inl z
              · exact .inr ⟨b', List.mem_append_left _ mb, z⟩
              · rw [hLd] at mkk
                split at mkk
                · rename_i eb
                  exact .inr ⟨bb, by simp, eb, kk, mkk, e, l⟩
                · exact nomatch mkk
            · rintro (z | ⟨b', mb, z⟩)
              · exact .inl (.inl z)
              · rcases List.mem_append.mp mb with mb | mb
                · exact .inl (.inr ⟨b', mb, z⟩)
                · rw [List.mem_singleton.mp mb] at z
                  obtain ⟨eb, kk, mkk, e, l⟩ := z
                  exact .inr ⟨kk, by rw [hLd, if_pos eb]; exact mkk, e, l⟩
        · rintro σ' H10 ⟨o12, o13, o14, o15, o16, F10, zs, rfl, st, ex2, zok⟩
          refine ⟨_, _, _, _, _, _, _, F10, kvs9, mm9, zs, rfl, st, exE.trans ex2, mokF, zok.congr fun y => ?_⟩
          rw [List.take_length, tk]
          constructor
          · rintro (⟨x', mx, z⟩ | z)
            · exact ⟨x', List.mem_append_left _ mx, z⟩
            · exact ⟨(pl, row), by simp, nxt_a.mpr z⟩
          · rintro ⟨x', mx, z⟩
            rcases List.mem_append.mp mx with mx | mx
            · exact .inl ⟨x', mx, z⟩
            · rw [List.mem_singleton.mp mx] at z
              exact .inr (nxt_a.mp z)
      · rintro σ' H5 ⟨o10, o11, o12, o13, o14, o15, o16, F5, kvs, mm, zs, rfl, st, ex, mok, zok⟩
        have lxs := Paired.length lr
        rw [lxs, List.take_length] at mok zok
        refine ⟨_, rfl, E, _, rfl, st.hE, fun p hp => ?_⟩
        have gn := (st.g.mono (B' := [D]) fun b hb => by
          rcases List.mem_cons.mp hb with rfl | hb
          · exact .inl (by simp)
          · exact .inr (by rw [List.mem_singleton.mp hb]; exact n0)).new (o := .lst ((zs.map fun z => (kN z.1, z.2)).map fun x => V.ref x.2)) hp
        have e1 := Ex.new (o := HO.lst ((zs.map fun z => (kN z.1, z.2)).map fun x => V.ref x.2)) (st.g.fh.dm hp)
        have nDp : D ≠ p := ne_of_none st.hD hp
        refine ⟨_, _, _, _, _, _, _, _, _, _, _, kvs, mm, p, _, zs.map (·.1), rfl, gn, by rw [upd_ne nDp]; exact st.fD, by rw [upd_ne nDp]; exact st.hD, st.mq.up fun v b ⟨L, h1, h2⟩ => ⟨L, h1, e1 _ _ h2⟩, upd_same, (line_of st.zt).ex e1, fun x => ?_, mok.congr fun x => ?_⟩
        · rw [zok.mem]
          exact ⟨fun ⟨y, my, z⟩ => ⟨y, (hxs y).mp my, z⟩, fun ⟨y, ly, z⟩ => ⟨y, (hxs y).mpr ly, z⟩⟩
        · rw [hxs]
          constructor
          · rintro (⟨k, lt, z⟩ | z)
            · exact ⟨k, by omega, z⟩
            · exact ⟨i, by omega, z⟩
          · rintro ⟨k, lt, z⟩
            by_cases e : k = i
            · rw [e] at z; exact .inr z
            · exact .inl ⟨k, by omega, z⟩
    · rintro σ' H' ⟨o7, o8, o9, o10, o11, o12, o13, o14, o15, o16, F', kvs, mm, Ln, vs, xs, rfl, g, fD, hDk, mq, fLn, lr, hxs, mok⟩
      have gd := (g.mono (B' := []) fun b hb => .inr (by rw [List.mem_singleton.mp hb]; exact hD)).done hD fD hDk
      have e1 := Ex.new (o := HO.dT kvs) fD
      refine ⟨_, rfl, q D kvs mm _ _ upd_same hDk (mq.up fun v b ⟨L, h1, h2⟩ => ⟨L, h1, e1 _ _ h2⟩) (mok.congr fun x => ?_) gd⟩
      exact ⟨fun ⟨k, lt, z⟩ => ⟨k, by omega, z⟩, fun ⟨k, lt, z⟩ => ⟨k, by omega, z⟩⟩
end
end TW
set_option Elab.async false
set_option linter.all false
set_option maxRecDepth 100000
set_option maxHeartbeats 4000000
/-! lists of ints: lots, equality (these stand in TwOne for k06, too) -/
namespace TW
open PySem PySem.Spec PyProof.Rows L2 RZ StX
open Evl (Ex)
section
variable {K : PySem.W.Frag}
theorem asc_of : ∀ {l : List Int}, l.Pairwise (· < ·) → asc l = true
  | [], _ => rfl
  | [_], _ => rfl
  | x :: y :: r, h => by
    have h' := List.pairwise_cons.mp h
    show (decide (x < y) && asc (y :: r)) = true
    rw [asc_of h'.2, decide_eq_true (h'.1 y List.mem_cons_self)]
    rfl
theorem lot_of {l : List Int} (h : l.Pairwise (· < ·)) (r : ∀ z ∈ l, 0 ≤ z ∧ z ≤ 399) : isLot (.list (l.map .int)) = true ∧ isLot (.tuple (l.map .int)) = true := by
  have e1 : (l.map PyData.int).all (isWithin 0 399) = true := List.all_eq_true.mpr fun d hd => by
    obtain ⟨z, hz, rfl⟩ := List.mem_map.mp hd
    obtain ⟨h1, h2⟩ := r z hz
    simp [isWithin, h1, h2]
  have e2 : asc ((l.map PyData.int).map toI) = true := by
    rw [List.map_map, show (toI ∘ PyData.int) = id from rfl, List.map_id]
    exact asc_of h
  constructor
  · show ((l.map PyData.int).all (isWithin 0 399) && asc ((l.map PyData.int).map toI)) = true
    rw [e1, e2]; rfl
  · show ((l.map PyData.int).all (isWithin 0 399) && asc ((l.map PyData.int).map toI)) = true
    rw [e1, e2]; rfl
theorem nodup_asc {l : List Int} (h : l.Pairwise (· < ·)) : l.Nodup := h.imp fun h e => Int.ne_of_lt h e
theorem eqvAll_ints : ∀ l m : List Int, PyData.eqvAll (l.map .int) (m.map .int) = decide (l = m)
  | [], [] => by simp [PyData.eqvAll]
  | [], _ :: _ => by simp [PyData.eqvAll]
  | _ :: _, [] => by simp [PyData.eqvAll]
  | x :: l, y :: m => by
    have ih := eqvAll_ints l m
    simp only [List.map_cons, PyData.eqvAll, ih, PyData.eqv]
    by_cases h : x = y <;> simp [h]
theorem eqv_ints (l m : List Int) : PyData.eqv (.tuple (l.map .int)) (.tuple (m.map .int)) = decide (l = m) := by
  rw [← eqvAll_ints]
  simp [PyData.eqv]
theorem shaped_intsT (l : List Int) : SeqAt.shaped (.tuple (l.map .int)) = true := by
  obtain ⟨h1, h2⟩ := flat1_lay (ds := l.map .int) fun e he => by
    obtain ⟨z, _, rfl⟩ := List.mem_map.mp he
    rfl
  simp [SeqAt.shaped, PyData.canLay0, PyData.depth, h1]
  omega
theorem ne_ints {l m : List Int} {x y : V} {H : Hp} {Q : VK} (hx : Dp K H x (.tuple (l.map .int))) (hy : Dp K H y (.tuple (m.map .int))) (q : Q (.bl (!decide (l = m))) H) : rNeDD K x y H Q :=
  .mk ⟨_, _, hx, hy, shaped_intsT l, shaped_intsT m, by rw [eqv_ints]; exact q⟩
theorem eq_ints {l m : List Int} {x y : V} {H : Hp} {Q : VK} (hx : Dp K H x (.tuple (l.map .int))) (hy : Dp K H y (.tuple (m.map .int))) (q : Q (.bl (decide (l = m))) H) : rEqDD K x y H Q :=
  .mk ⟨_, _, hx, hy, shaped_intsT l, shaped_intsT m, by rw [eqv_ints]; exact q⟩
end
end TW
set_option Elab.async false
set_option linter.all false
set_option maxRecDepth 100000
set_option maxHeartbeats 8000000
/-! list(zip(a, b)) -/
namespace TW
open PySem PySem.Spec PyProof.Rows L2 PySem.W PySem.Calls
/-- a zip of two lists, i pairs told; its last tuple is still out (S: the list that is made) -/
structure ZSt (h : Heap) (z TI TO i1 i2 l1 l2 S : Addr) (xs ys : Array Value) (i : Nat) : Prop where
  ti : IsPair h TI (.ref i1) (.ref i2)
  a1 : h.IsListIter i1 l1 i
  a2 : h.IsListIter i2 l2 i
  b1 : h.IsList l1 xs
  b2 : h.IsList l2 ys
  o : (IsZip h z TI TO .none ∧ ∃ a b, IsPair h TO a b) ∨ ∃ T f oT, IsZipHeld h z TI TO T f ∧ h.get? T = some oT ∧ T ≠ z ∧ T ≠ i1 ∧ T ≠ i2 ∧ T ≠ S
structure ZOff (z TI TO i1 i2 l1 l2 S : Addr) : Prop where
  z : S ≠ z
  TI : S ≠ TI
  TO : S ≠ TO
  i1 : S ≠ i1
  i2 : S ≠ i2
  l1 : S ≠ l1
  l2 : S ≠ l2
section
variable {z TI TO i1 i2 l1 l2 S : Addr} {xs ys : Array Value} {i : Nat}
theorem ZSt.keep {h h' : Heap} (a : ZSt h z TI TO i1 i2 l1 l2 S xs ys i) (f : ZOff z TI TO i1 i2 l1 l2 S) (k : ∀ b o, b ≠ S → h.get? b = some o → h'.get? b = some o) : ZSt h' z TI TO i1 i2 l1 l2 S xs ys i where
  ti := k _ _ f.TI.symm a.ti
  a1 := a.a1.at fun o e => k _ o f.i1.symm e
  a2 := a.a2.at fun o e => k _ o f.i2.symm e
  b1 := a.b1.at fun o e => k _ o f.l1.symm e
  b2 := a.b2.at fun o e => k _ o f.l2.symm e
  o := a.o.imp (fun ⟨q, u, v, e⟩ => ⟨k _ _ f.z.symm q, u, v, k _ _ f.TO.symm e⟩) fun ⟨T, g, oT, q, e, n1, n2, n3, n4⟩ => ⟨T, g, oT, k _ _ f.z.symm q, k _ _ n4 e, n1, n2, n3, n4⟩
end
section
variable {prog : Program} {w : World} {A : Around} {E : Value → Shared → Prop} {s : Shared} {z TI TO i1 i2 l1 l2 S : Addr} {xs ys : Array Value} {i : Nat}
theorem zl_item {x y : Value} {Q : Option Value → Shared → Prop} (D : ZipApart z TI TO i1 i2 l1 l2) (st : ZSt s.heap z TI TO i1 i2 l1 l2 S xs ys i) (hS : S < s.heap.objs.size) (hx : xs[i]? = some x) (hy : ys[i]? = some y)
    (q : ∀ h', ZSt h' z TI TO i1 i2 l1 l2 S xs ys (i + 1) → IsPair h' s.heap.objs.size x y → h'.objs.size = s.heap.objs.size + 1 → (∀ c o, c ≠ z → c ≠ TO → c ≠ i1 → c ≠ i2 → s.heap.get? c = some o → h'.get? c = some o) → Q (some (.ref s.heap.objs.size)) { s with heap := h' }) :
    wpAny (model prog w) A (pyNext (.ref z)) Q E s := by
  obtain ⟨ti, a1, a2, b1, b2, o⟩ := st
  have n1 : s.heap.objs.size ≠ i1 := by obtain ⟨_, e, _⟩ := a1; exact Nat.ne_of_gt (Heap.lt_size e)
  have n2 : s.heap.objs.size ≠ i2 := by obtain ⟨_, e, _⟩ := a2; exact Nat.ne_of_gt (Heap.lt_size e)
  have nS : s.heap.objs.size ≠ S := Nat.ne_of_gt hS
  rcases o with ⟨hz, u, v, hTO⟩ | ⟨T, f, oT, hz, hT, t1, t2, t3, t4⟩
  · have nz : s.heap.objs.size ≠ z := Nat.ne_of_gt (Heap.lt_size hz)
    refine wpAny_pyNext_zip_item D hz ti hTO a1 a2 b1 b2 hx hy fun h' e1 e2 e3 e4 e5 e6 k => q h' ⟨k _ _ D.TIz D.TITO D.TIi1 D.TIi2 ti, e3, e4, b1.at fun o e => k _ o D.l1z D.l1TO D.l1i1 D.l1i2 e, b2.at fun o e => k _ o D.l2z D.l2TO D.l2i1 D.l2i2 e, .inr ⟨_, false, _, e1, e5, nz, n1, n2, nS⟩⟩ e5 e6 k
  · have nz : s.heap.objs.size ≠ z := Nat.ne_of_gt (Heap.lt_size hz)
    refine wpAny_pyNext_zip_item_held D hz hT ti a1 a2 b1 b2 hx hy fun h' e1 e3 e4 e5 e6 k => q h' ⟨k _ _ D.TIz D.TIi1 D.TIi2 ti, e3, e4, b1.at fun o e => k _ o D.l1z D.l1i1 D.l1i2 e, b2.at fun o e => k _ o D.l2z D.l2i1 D.l2i2 e, .inr ⟨T, true, oT, e1, k _ _ t1 t2 t3 hT, t1, t2, t3, t4⟩⟩ e5 e6 fun c o c1 _ c3 c4 => k c o c1 c3 c4
theorem zl_end {Q : Option Value → Shared → Prop} (hh : A.handled = none) (D : ZipApart z TI TO i1 i2 l1 l2) (st : ZSt s.heap z TI TO i1 i2 l1 l2 S xs ys i) (he : xs[i]? = none ∨ ys[i]? = none)
    (q : ∀ h', (∀ c o, c ≠ z → c ≠ TO → c ≠ i1 → c ≠ i2 → s.heap.get? c = some o → h'.get? c = some o) → Q none { s with heap := h' }) : wpAny (model prog w) A (pyNext (.ref z)) Q E s := by
  obtain ⟨ti, a1, a2, b1, b2, o⟩ := st
  rcases o with ⟨hz, u, v, hTO⟩ | ⟨T, f, oT, hz, hT, t1, t2, t3, t4⟩
  · exact wpAny_pyNext_zip_end hh D hz ti hTO a1 a2 b1 b2 he q
  · exact wpAny_pyNext_zip_end_held hh D hz hT ti a1 a2 b1 b2 he fun h' k => q h' fun c o c1 _ c3 c4 => k c o c1 c3 c4
/-- the pairs that were told -/
structure ZGot (xs ys : Array Value) (lo : Addr) (h : Heap) (as : List Addr) : Prop where
  up : as.Pairwise (· < ·)
  ab : ∀ a ∈ as, lo < a
  at' : ∀ (j : Nat) (a : Addr), as[j]? = some a → ∃ x y, xs[j]? = some x ∧ ys[j]? = some y ∧ IsPair h a x y
theorem ZGot.lt {lo : Addr} {h : Heap} {as : List Addr} (g : ZGot xs ys lo h as) {a : Addr} (ha : a ∈ as) : a < h.objs.size := by
  obtain ⟨j, hj⟩ := List.mem_iff_getElem?.mp ha
  obtain ⟨_, _, _, _, e⟩ := g.at' j a hj
  exact Heap.lt_size e
/-- all but what a zip and its list change -/
def zKept (h h' : Heap) (z TO i1 i2 S : Addr) : Prop := ∀ b o, b ≠ S → b ≠ z → b ≠ TO → b ≠ i1 → b ≠ i2 → h.get? b = some o → h'.get? b = some o
theorem zl_loop {R : Result → Shared → Prop} (hh : A.handled = none) (D : ZipApart z TI TO i1 i2 l1 l2) (f : ZOff z TI TO i1 i2 l1 l2 S) (lt : z < S ∧ TO < S ∧ i1 < S ∧ i2 < S) {n : Nat} (en : n = min xs.size ys.size) (hn : n ≤ sizeLine) (res : Value) {h₀ : Heap}
    (q : ∀ h' tk acc c as, zKept h₀ h' z TO i1 i2 S → h'.get? S = some { cls := .type "list", dict := none, data := .seq acc c, slots := #[] } → as.length = n → ZGot xs ys S h' as → acc.toList = as.map Value.ref → R (.ok (.ret res)) { s with heap := h', toks := tk }) :
    ∀ (m i : Nat) (h : Heap) (tk c : Nat) (acc : Array Value) (as : List Addr), n - i = m → i ≤ n → ZSt h z TI TO i1 i2 l1 l2 S xs ys i → zKept h₀ h z TO i1 i2 S → h.get? S = some { cls := .type "list", dict := none, data := .seq acc c, slots := #[] } →
      acc.toList = as.map Value.ref → as.length = i → ZGot xs ys S h as → codeAny (model prog w) A (.builtin "list.extend.loop" ⟨[.ref S, .ref z, res], []⟩) R { s with heap := h, toks := tk } := by
  intro m
  induction m with
  | zero =>
    intro i h tk c acc as hm hi st kp hS hacc hal hG
    refine codeAny_builtin PySem.F.entry_extend_loop ?_
    rw [Around.under_plainId PySem.F.plain_extend_loop _]
    show wpAny _ A.in1 (pyNext (.ref z) >>= _) _ _ _
    refine wpAny_bind (zl_end (s := { s with heap := h, toks := tk }) (A := A.in1) hh D st ?_ fun h' k => ?_)
    · rcases Nat.le_total xs.size ys.size with e | e
      · exact .inl (Array.getElem?_eq_none (by omega))
      · exact .inr (Array.getElem?_eq_none (by omega))
    · refine wpAny_pure (q h' tk acc c as (fun b o b0 b1 b2 b3 b4 e => k b o b1 b2 b3 b4 (kp b o b0 b1 b2 b3 b4 e)) (k S _ f.z f.TO f.i1 f.i2 hS) (by omega) ⟨hG.up, hG.ab, fun j a hj => ?_⟩ hacc)
      obtain ⟨x, y, e1, e2, e3⟩ := hG.at' j a hj
      have ga := hG.ab a (List.mem_of_getElem? hj)
      exact ⟨x, y, e1, e2, k a _ (Nat.ne_of_gt (Nat.lt_trans lt.1 ga)) (Nat.ne_of_gt (Nat.lt_trans lt.2.1 ga)) (Nat.ne_of_gt (Nat.lt_trans lt.2.2.1 ga)) (Nat.ne_of_gt (Nat.lt_trans lt.2.2.2 ga)) e3⟩
  | succ m ih =>
    intro i h tk c acc as hm hi st kp hS hacc hal hG
    have hx : xs[i]? = some (xs[i]'(by omega)) := Array.getElem?_eq_getElem (by omega)
    have hy : ys[i]? = some (ys[i]'(by omega)) := Array.getElem?_eq_getElem (by omega)
    have hsz : acc.size = i := by rw [← Array.length_toList, hacc, List.length_map, hal]
    have hSl : S < h.objs.size := Heap.lt_size hS
    refine codeAny_builtin PySem.F.entry_extend_loop ?_
    rw [Around.under_plainId PySem.F.plain_extend_loop _]
    show wpAny _ A.in1 (pyNext (.ref z) >>= _) _ _ _
    refine wpAny_bind (zl_item (s := { s with heap := h, toks := tk }) D st hSl hx hy fun h' st' hp hz k => ?_)
    dsimp only at hp hz k ⊢
    have hS' := k S _ f.z f.TO f.i1 f.i2 hS
    have up : ∀ b o, b ≠ S → h'.get? b = some o → (h'.update S (Obj.mapSeq (·.push (Value.ref h.objs.size)))).get? b = some o := fun b o hb e => (Heap.get?_update_other _ _ (Ne.symm hb)).trans e
    have far : ∀ a, S < a → a ≠ z ∧ a ≠ TO ∧ a ≠ i1 ∧ a ≠ i2 := fun a ga => ⟨Nat.ne_of_gt (Nat.lt_trans lt.1 ga), Nat.ne_of_gt (Nat.lt_trans lt.2.1 ga), Nat.ne_of_gt (Nat.lt_trans lt.2.2.1 ga), Nat.ne_of_gt (Nat.lt_trans lt.2.2.2 ga)⟩
    show wpAny _ A.in1 (updateSeq S (·.push (Value.ref h.objs.size)) >>= _) _ _ _
    refine wpAny_bind ?_
    refine wpAny_updateSeq hS' rfl (wpAny_pure ⟨plainId_quiet PySem.F.plain_extend_loop _, ih (i + 1) _ tk _ (acc.push (Value.ref h.objs.size)) (as ++ [h.objs.size]) (by omega) (by omega) (st'.keep f up)
      (fun b o b0 b1 b2 b3 b4 e => up b o b0 (k b o b1 b2 b3 b4 (kp b o b0 b1 b2 b3 b4 e))) (Heap.get?_update_self _ hS' rfl) (by rw [Array.toList_push, hacc, List.map_append]; rfl) (by rw [List.length_append, hal]; rfl) ⟨?_, ?_, ?_⟩⟩) (by rw [hsz]; omega) (by show (acc.push (Value.ref h.objs.size)).size ≤ sizeLine + 1; rw [Array.size_push, hsz]; omega)
    · refine List.pairwise_append.mpr ⟨hG.up, List.pairwise_singleton _ _, fun a ha b hb => ?_⟩
      rw [List.mem_singleton.mp hb]
      exact hG.lt ha
    · intro a ha
      rcases List.mem_append.mp ha with ha | ha
      · exact hG.ab a ha
      · rw [List.mem_singleton.mp ha]; exact hSl
    · intro j b hj
      by_cases h1 : j < as.length
      · rw [List.getElem?_append_left h1] at hj
        obtain ⟨x', y', e1, e2, e3⟩ := hG.at' j b hj
        have gb := hG.ab b (List.mem_of_getElem? hj)
        obtain ⟨f1, f2, f3, f4⟩ := far b gb
        exact ⟨x', y', e1, e2, up b _ (Nat.ne_of_gt gb) (k b _ f1 f2 f3 f4 e3)⟩
      · have h2 : j = as.length := by
          have := (List.getElem?_eq_some_iff.mp hj).1
          rw [List.length_append, List.length_singleton] at this
          omega
        subst h2
        have hb : h.objs.size = b := by simpa using hj
        subst hb
        exact ⟨_, _, by rw [hal]; exact hx, by rw [hal]; exact hy, up _ _ (Nat.ne_of_gt hSl) hp⟩
theorem zip_no_len : typeLookup (.type "zip") "__len__" = pure none := by rw [typeLookup_type, builtinLookup_eq_fast]; kernel_rfl
theorem zip_no_hint : typeLookup (.type "zip") "__length_hint__" = pure none := by rw [typeLookup_type, builtinLookup_eq_fast]; kernel_rfl
theorem zl_call {Q : Value → Shared → Prop} (hh : A.handled = none) (D : ZipApart z TI TO i1 i2 l1 l2) (st : ∀ S, ZSt s.heap z TI TO i1 i2 l1 l2 S xs ys 0) (hz0 : IsZip s.heap z TI TO .none) (hTO : ∃ a b, IsPair s.heap TO a b) (hn : min xs.size ys.size ≤ sizeLine)
    (q : ∀ h' tk acc c as, zKept s.heap h' z TO i1 i2 s.heap.objs.size → h'.get? s.heap.objs.size = some { cls := .type "list", dict := none, data := .seq acc c, slots := #[] } → as.length = min xs.size ys.size → ZGot xs ys s.heap.objs.size h' as → acc.toList = as.map Value.ref →
      Q (.ref s.heap.objs.size) { s with heap := h', toks := tk }) : wpAny (model prog w) A (call (.type "list") [.ref z]) Q E s := by
  obtain ⟨ti, a1, a2, b1, b2, _⟩ := st 0
  obtain ⟨ua, ub, hTO⟩ := hTO
  have lz : z < s.heap.objs.size := Heap.lt_size hz0
  have lTI : TI < s.heap.objs.size := Heap.lt_size ti
  have lTO : TO < s.heap.objs.size := Heap.lt_size hTO
  have li1 : i1 < s.heap.objs.size := by obtain ⟨_, e, _⟩ := a1; exact Heap.lt_size e
  have li2 : i2 < s.heap.objs.size := by obtain ⟨_, e, _⟩ := a2; exact Heap.lt_size e
  have ll1 : l1 < s.heap.objs.size := by obtain ⟨_, e, _⟩ := b1; exact Heap.lt_size e
  have ll2 : l2 < s.heap.objs.size := by obtain ⟨_, e, _⟩ := b2; exact Heap.lt_size e
  have off : ZOff z TI TO i1 i2 l1 l2 s.heap.objs.size := ⟨Nat.ne_of_gt lz, Nat.ne_of_gt lTI, Nat.ne_of_gt lTO, Nat.ne_of_gt li1, Nat.ne_of_gt li2, Nat.ne_of_gt ll1, Nat.ne_of_gt ll2⟩
  refine callType_codes (Q₁ := fun obj s₁ => obj = .ref s.heap.objs.size ∧ s₁ = { s with heap := s.heap.push { cls := .type "list", data := .seq #[] } }) PySem.F.called_list (PySem.F.typeCall_list_1 _) PySem.F.entry_list_init
    (code_list_new _ ⟨rfl, rfl⟩) fun obj s₁ h₁ => ?_
  obtain ⟨rfl, rfl⟩ := h₁
  have hS : (s.heap.push { cls := .type "list", data := .seq #[] }).get? s.heap.objs.size = some { cls := .type "list", data := .seq #[] } := Heap.get?_push_size _ rfl
  refine ⟨⟨_, hS, rfl⟩, PySem.F.args_list_init_2 _ _, ?_⟩
  show wpAny _ A.in1.in1 (do let old ← Builtin.List.listItems (.ref s.heap.objs.size); Builtin.List.listUpdate (.ref s.heap.objs.size) (fun _ => #[]); letGo old.toList.reverse; Builtin.List.listExtendWith (.ref s.heap.objs.size) (.ref z) .none) _ _ _
  refine wpAny_bind ?_
  unfold Builtin.List.listItems
  refine wpAny_bind (wpAny_seqItems hS rfl (wpAny_pure ?_))
  show wpAny _ A.in1.in1 (updateSeq s.heap.objs.size (fun _ => #[]) >>= fun _ => letGo (#[] : Array Value).toList.reverse >>= fun _ => Builtin.List.listExtendWith (.ref s.heap.objs.size) (.ref z) .none) _ _ _
  refine wpAny_bind (wpAny_updateSeq hS rfl ?_)
  have hS2 := Heap.get?_update_self (Obj.mapSeq (fun _ => (#[] : Array Value))) hS rfl
  refine wpAny_bind (wpAny_letGo ?_)
  have oth : ∀ (h : Heap) (g : Obj → Obj), (∀ b o, b ≠ s.heap.objs.size → s.heap.get? b = some o → h.get? b = some o) → ∀ b o, b ≠ s.heap.objs.size → s.heap.get? b = some o → (h.update s.heap.objs.size g).get? b = some o := fun h g k b o nb e =>
    (Heap.get?_update_other _ _ (Ne.symm nb)).trans (k b o nb e)
  have k1 : ∀ b o, b ≠ s.heap.objs.size → s.heap.get? b = some o → (s.heap.push { cls := .type "list", data := .seq #[] }).get? b = some o := fun b o _ e => Heap.get?_push_of_some _ e
  have k2 := oth _ (Obj.mapSeq (fun _ => (#[] : Array Value))) k1
  unfold Builtin.List.listExtendWith
  have hT : Shared.TypeIs { s with heap := (s.heap.push { cls := .type "list", data := .seq #[] }).update s.heap.objs.size (Obj.mapSeq (fun _ => (#[] : Array Value))) } (.ref z) "zip" := ⟨_, k2 z _ (Nat.ne_of_lt lz) hz0, rfl⟩
  refine wpAny_bind (wpAny_typeOf hT ?_)
  have h1 : Builtin.List.listSameRef (.ref s.heap.objs.size) (.ref z) = false := by simp [Builtin.List.listSameRef, Nat.ne_of_gt lz]
  have h2 : (Value.type "zip" == Value.type "list") = false := by decide
  have h3 : (Value.type "zip" == Value.type "tuple") = false := by decide
  simp only [h1, h2, h3, Bool.or_false, Bool.false_eq_true, if_false]
  refine wpAny_bind (wpAny_pyIter_zip (k2 z _ (Nat.ne_of_lt lz) hz0) ?_)
  refine wpAny_bind (wpAny_holding ?_)
  unfold Builtin.List.listLengthHint
  refine wpAny_bind (wpAny_specialOf hT zip_no_len ?_)
  show wpAny _ A.in1.in1 (specialOf (Value.ref z) (Str.ofString "__length_hint__") >>= _) _ _ _
  refine wpAny_bind (wpAny_specialOf hT zip_no_hint ?_)
  refine wpAny_pure ?_
  show wpAny _ A.in1.in1 (rule "list.extend.makes-room" >>= fun _ => Builtin.List.listTouch (.ref s.heap.objs.size) >>= fun _ =>
    again (.builtin "list.extend.loop" ⟨[.ref s.heap.objs.size, .ref z, .none], []⟩)) _ _ _
  refine wpAny_bind (wpAny_rule ?_)
  refine wpAny_bind ?_
  show wpAny _ A.in1.in1 (updateSeq s.heap.objs.size (·.push .none) >>= fun _ => updateSeq s.heap.objs.size (·.pop)) _ _ _
  refine wpAny_bind (wpAny_updateSeq hS2 rfl ?_)
  have hS3 := Heap.get?_update_self (Obj.mapSeq (·.push Value.none)) hS2 rfl
  refine wpAny_updateSeq (hz := by seq_fits) hS3 rfl ?_
  have hS4 := Heap.get?_update_self (Obj.mapSeq (·.pop)) hS3 rfl
  have k4 := oth _ (Obj.mapSeq (·.pop)) (oth _ (Obj.mapSeq (·.push Value.none)) k2)
  refine wpAny_pure ⟨plainId_quiet PySem.F.plain_extend_loop _, ?_⟩
  refine zl_loop (A := A.in1) (s := s) (h₀ := s.heap) hh D off ⟨lz, lTO, li1, li2⟩ rfl hn .none (fun h' tk acc c as kk hS' hl hG hacc => ?_) _ 0 _ _ _ #[] [] rfl (Nat.zero_le _) ((st _).keep off k4) (fun b o b0 _ _ _ _ e => k4 b o b0 e) hS4 rfl rfl ⟨List.Pairwise.nil, (fun _ ha => nomatch ha), (fun j a hj => by simp at hj)⟩
  exact ⟨rfl, q h' tk acc c as kk hS' hl hG hacc⟩
end
end TW
set_option Elab.async false
set_option linter.all false
set_option maxRecDepth 100000
set_option maxHeartbeats 8000000
/-! list(zip(a, b)) as an expression; calls by keywords alone -/
namespace TW
open PySem PySem.Spec PyProof.Rows L2 PySem.W PySem.Calls
open Evl (Ex)
/-- list(zip(a, b)), the first list's items keys -/
structure rLZ (K : PySem.W.Frag) (vs : List V) (H1 : Hp) (Q : VK) : Prop where
  r : ∃ (a b : Addr) (ks : List Key) (ys : List V), vs = [.ref a, .ref b] ∧ SqL K H1 a (ks.map kV) ∧ SqL K H1 b ys ∧
    ∀ (H' : Hp) (S : Addr) (as : List Addr), Ex H1 H' → H1 S = none → (∀ t ∈ as, H1 t = none) → S ∉ as → H' S = some (.lst (as.map V.ref)) → Paired (fun (t : Addr) (q : Key × V) => H' t = some (.tup [kV q.1, q.2])) as (ks.zip ys) → Q (.ref S) H'
def tLZ (K : PySem.W.Frag) (ta : TA) : TE := fun σ H Q => ta σ H fun vs H1 => rLZ K vs H1 Q
section
variable {X : Cx} {pins : List (Addr × Obj)} {σ : L2.St} {H : Hp} {s : Shared}
theorem zl_laid {h' : Heap} {tk : Nat} {kvs : List (Key × V)} {acc : Array Value} {c : Nat} {as : List Addr} {S : Addr} (I : Inv X pins σ H s) (hz : kvs.length ≤ sizeLine) (kp : ∀ b o, s.heap.get? b = some o → h'.get? b = some o) (ge : s.heap.objs.size ≤ S)
    (hS : h'.get? S = some { cls := .type "list", dict := none, data := .seq acc c, slots := #[] }) (up : as.Pairwise (· < ·)) (ab : ∀ a ∈ as, S < a) (hacc : acc.toList = as.map Value.ref) (hl : as.length = kvs.length)
    (hp : ∀ (j : Nat) (a : Addr), as[j]? = some a → ∃ (q : Key × V) (x y : Value), kvs[j]? = some q ∧ RelV (kV q.1) x ∧ RelV q.2 y ∧ IsPair h' a x y) :
    ∃ H' : Hp, Ex H H' ∧ H S = none ∧ (∀ t ∈ as, H t = none) ∧ S ∉ as ∧ H' S = some (.lst (as.map V.ref)) ∧ Paired (fun (t : Addr) (q : Key × V) => H' t = some (.tup [kV q.1, q.2])) as kvs ∧ Inv X pins σ H' { s with heap := h', toks := tk } := by
  have nS : S ∉ as := fun z => Nat.lt_irrefl _ (ab S z)
  have nd : as.Nodup := up.imp fun h => Nat.ne_of_lt h
  have fr : ∀ t ∈ as, H t = none := fun t ht => I.hok.fresh (Nat.le_trans ge (Nat.le_of_lt (ab t ht)))
  have frS : H S = none := I.hok.fresh ge
  have atP := LiI.putT_at as kvs (upd H S (.lst (as.map V.ref))) hl nd
  have old : ∀ b, b ∉ as → b ≠ S → LiI.putT (upd H S (.lst (as.map V.ref))) as kvs b = H b := fun b h1 h2 => by rw [LiI.putT_off as kvs _ h1, upd_ne h2]
  have ex : Ex H (LiI.putT (upd H S (.lst (as.map V.ref))) as kvs) := fun b u e => by
    rw [old b (fun z => by rw [fr b z] at e; cases e) (fun z => by rw [z, frS] at e; cases e)]
    exact e
  have eS : LiI.putT (upd H S (.lst (as.map V.ref))) as kvs S = some (.lst (as.map V.ref)) := by rw [LiI.putT_off as kvs _ nS, upd_same]
  refine ⟨LiI.putT (upd H S (.lst (as.map V.ref))) as kvs, ex, frS, fr, nS, eS, atP, ?_⟩
  refine I.call' (ch := []) rfl ⟨fun b o q _ _ _ => kp b o q, fun b o q _ _ _ => ⟨o.slots, kp b o q⟩, fun b o q n _ => ?_, fun b o q _ => ⟨o, kp b o q⟩, fun b xs q => ex b _ q, fun b o u q => ex b _ q, fun b ps q => ⟨#[], by rw [ex b _ q]; simp⟩⟩ (fun b u q => ?_) I.bare fun b z => by simp at z
  · have lb := Heap.lt_size q
    rw [old b (fun z => absurd lb (Nat.not_lt.mpr (Nat.le_trans ge (Nat.le_of_lt (ab b z))))) (fun z => absurd lb (Nat.not_lt.mpr (z ▸ ge)))]
    exact n
  · by_cases hb : b ∈ as
    · obtain ⟨j, pk, e1, e2, e3⟩ := LiI.paired_ix atP hb
      rw [e3] at q
      cases q
      obtain ⟨p', x, y, f1, f2, f3, f4⟩ := hp j b e1
      rw [e2] at f1
      cases f1
      exact ⟨by show 2 ≤ sizeLine; decide, [x, y], .cons f2 (.cons f3 .nil), ⟨_, f4, rfl, _, rfl⟩⟩
    · by_cases hb2 : b = S
      · subst hb2
        rw [eS] at q
        cases q
        refine ⟨by rw [List.length_map]; omega, acc.toList, c, by rw [hacc]; exact LiI.vals_refs as, ?_⟩
        rw [Array.toArray_toList]
        exact hS
      · rw [old b hb hb2] at q
        exact (I.hok b u q).stay (fun d v _ y => kp d _ y) (fun d y => ex d _ y) fun d xs y => ex d _ y
theorem pe_listZip {a b : Expr} {ta : TA} {p p2 pos pos2 : Pos} (K : PySem.W.Frag) (ha : PA X [a, b] ta) (hml : X.mg "list" = none) (hmz : X.mg "zip" = none) (hc : X.calm = true := by rfl) (hK : X.K = K := by rfl) (hg : Gl X "list" := by rfl) (hg2 : Gl X "zip" := by rfl)
    (hs : starEach [.Call (.Name "zip" p2) [a, b] [] pos2] X.env = (false, eval (.Call (.Name "zip" p2) [a, b] [] pos2) X.env) :: starEach [] X.env := by rfl) (hs2 : starEach [a, b] X.env = (false, eval a X.env) :: starEach [b] X.env := by rfl) (hpl : (backTo pos2 (starEach [b] X.env)).any (·.1) = false := by rfl) :
    PE X (.Call (.Name "list" p) [.Call (.Name "zip" p2) [a, b] [] pos2] [] pos) (tLZ K ta) := by
  subst hK
  refine ⟨fun pins s σ H Q I h => ?_⟩
  refine wpAny_Call_Name_kw (ld_blt I hg hml bt_list ?_)
  refine PyProof.Rows.callWith_type1 ?_ hs rfl
  rw [hs]
  show wpAny _ _ (spliced ((false, eval (.Call (.Name "zip" p2) [a, b] [] pos2) X.env) :: backTo pos (starEach [] X.env))) _ _ s
  refine Calls.spliced_cons ?_
  refine Call_ (ld_blt I hg2 hmz PyProof.Rows.boot_zip (PyProof.Rows.callWith_type1 (thn (ha.run pos2 pins s σ H _ I h) fun us s1 ⟨vs, H1, I1, r1, q1⟩ => ?_) hs2 hpl))
  obtain ⟨la, lb, ks, ys, ex, qa, qb, q3⟩ := q1.r
  subst ex
  obtain ⟨u1, u2, rfl, r3, r4⟩ := vals2 r1
  cases r3
  cases r4
  obtain ⟨its, rv, p1, z1⟩ := I1.list qa
  obtain ⟨its2, rv2, p2', z2⟩ := I1.list qb
  refine call_zip_2 p1.isList p2'.isList fun hz h1 h2 h3 h4 h5 hsz hk => ?_
  refine Calls.spliced_nil ?_
  have D := PySem.W.ktu_apart s1.heap.objs.size la lb p1.lt p2'.lt
  have l1 : hz.IsList la its.toArray := p1.isList.at fun o e => hk _ o e
  have l2 : hz.IsList lb its2.toArray := p2'.isList.at fun o e => hk _ o e
  refine zl_call (s := { s1 with heap := hz }) (z := s1.heap.objs.size + 4) (I1.ok.hd hc) D (fun S => ⟨h2, h4, h5, l1, l2, .inl ⟨h1, _, _, h3⟩⟩) h1 ⟨_, _, h3⟩ (by have := rv.length; simp only [List.size_toArray]; omega) fun h' tk acc c as kk hS hl hG hacc => ?_
  have hsz' : Shared.heap { s1 with heap := hz } = hz := rfl
  simp only [hsz'] at kk hS hG ⊢
  rw [hsz] at kk hS hG ⊢
  have kp : ∀ b o, s1.heap.get? b = some o → h'.get? b = some o := fun b o e => by
    have lb := Heap.lt_size e
    exact kk b o (Nat.ne_of_lt (Nat.lt_add_right 5 lb)) (Nat.ne_of_lt (Nat.lt_add_right 4 lb)) (Nat.ne_of_lt (Nat.lt_add_right 3 lb)) (Nat.ne_of_lt lb) (Nat.ne_of_lt (Nat.lt_add_right 1 lb)) (hk b o e)
  have e1 := rv.length
  have e2 := rv2.length
  rw [List.length_map] at e1
  have hlen : as.length = (ks.zip ys).length := by rw [hl, List.length_zip, List.size_toArray, List.size_toArray, e1, e2]
  obtain ⟨H', x1, x2, x3, x4, x5, x6, J⟩ := zl_laid (S := s1.heap.objs.size + 5) (tk := tk) (kvs := ks.zip ys) (as := as) I1 (by rw [List.length_zip]; omega) kp (by omega) hS hG.up hG.ab hacc hlen fun j a' hj => by
    obtain ⟨x, y, f1, f2, f3⟩ := hG.at' j a' hj
    have f1 : its[j]? = some x := by simpa using f1
    have f2 : its2[j]? = some y := by simpa using f2
    have jl : j < ks.length := by rw [e1]; exact (List.getElem?_eq_some_iff.mp f1).1
    have jl2 : j < ys.length := by rw [e2]; exact (List.getElem?_eq_some_iff.mp f2).1
    obtain ⟨u1, w1, w2⟩ := rv.get (i := j) (x := kV ks[j]) (by rw [List.getElem?_map, List.getElem?_eq_getElem jl]; rfl)
    obtain ⟨u2, w3, w4⟩ := rv2.get (i := j) (List.getElem?_eq_getElem jl2)
    rw [f1] at w1
    rw [f2] at w3
    cases w1
    cases w3
    exact ⟨(ks[j], ys[j]), x, y, List.getElem?_zip_eq_some.mpr ⟨List.getElem?_eq_getElem jl, List.getElem?_eq_getElem jl2⟩, w2, w4, f3⟩
  exact ⟨.ref _, H', J, rfl, q3 H' _ as x1 x2 x3 x4 x5 x6⟩
end
/-- several new finished objects -/
theorem Gr.more {B : List Addr} {F H F1 H1 H' : Hp} (g : Gr B F H F1 H1) (e : Ex H1 H') (N : List Addr) (hn : ∀ a ∈ N, H1 a = none) : Gr B F H (fun a => if a ∈ N then H' a else F1 a) H' := g.trans (B' := []) {
  ff := fun a o h => by
    have z : a ∉ N := fun m => by rw [g.fh.dm (hn a m)] at h; cases h
    show (if a ∈ N then H' a else F1 a) = some o
    rw [if_neg z]; exact h
  hh := fun a o _ h => e a o h
  fh := fun a o h => by
    have h : (if a ∈ N then H' a else F1 a) = some o := h
    by_cases m : a ∈ N
    · rw [if_pos m] at h; exact .inl h
    · rw [if_neg m] at h
      rcases g.fh a o h with z | ⟨ob, kvs, z1, z2⟩
      · exact .inl (e a o z)
      · exact .inr ⟨ob, kvs, z1, e _ _ z2⟩
  nw := fun a o h => by
    have h : (if a ∈ N then H' a else F1 a) = some o := h
    by_cases m : a ∈ N
    · exact .inr (by rw [hn a m]; exact .n)
    · rw [if_neg m] at h; exact .inl h
  dm := fun a h => by
    cases z : H1 a with
    | none => rfl
    | some o => rw [e a o z] at h; cases h
  dt := fun a h => by
    cases z : H1 a with
    | none => exact .n
    | some o => rw [e a o z] at h; exact h }
/-! ### calls by keywords alone -/
theorem Vals.rev : ∀ {xs : List V} {us : List Value}, Vals xs us → Vals xs.reverse us.reverse
  | _, _, .nil => .nil
  | _, _, .cons r t => by
    rw [List.reverse_cons, List.reverse_cons]
    exact (Vals.rev t).append (.cons r .nil)
/-- the keywords stand in the parameters' order, from the last to the first -/
def back {α : Type} (us ws : List α) : List α := match us with
  | [] => ws.reverse
  | _ :: _ => []
/-- the def named x, called by the keywords ks alone -/
structure CalB (P : Program) (w : World) (K : PySem.W.Frag) (mg : Str → Option Value) (base : Heap) (x : Str) (k : Nat) (ps ks : List Str) (sp : Sp) : Prop where
  ex : ∃ (f : Addr) (fd : FuncData), mg x = some (.ref f) ∧ PySem.W.keepIn K (.ref f) = true ∧ KBinds K fd ps ks back back ∧ FnOk P w K mg base CX0 k f fd ps sp
theorem Fun.back {K : PySem.W.Frag} {x qual : Str} {st : Stmt} {f : Addr} {fd : FuncData} {ps ks : List Str} (F : Fun K x qual st f fd)
    (h : ∀ (kV doc pm : Value) (an : Option Addr) (cdv ct : Value) (ws : List Value), ws.length = ps.length → bindArgs (PySem.W.fnOf x qual (defArgs st) (defBody st) (defScope st) .none kV doc pm an cdv ct) ⟨[], ks.zip ws⟩ = pure (ps.zip ws.reverse)) (hps : ps ≠ []) : KBinds K fd ps ks TW.back TW.back := by
  obtain ⟨oc, od, kV, doc, pm, an, cdv, ct, osl, rfl, lk, hcd⟩ := F.ex
  refine ⟨fun s us ws _ hl => ?_, fun {vs us zs ws} r1 r2 => ?_⟩
  · cases us with
    | nil => exact .of_eq (h kV doc pm an cdv ct ws (by rw [← hl]; exact (List.length_reverse).symm))
    | cons a b => exact absurd (List.length_eq_zero_iff.mp hl.symm) hps
  · cases r1 with
    | nil => exact Vals.rev r2
    | cons _ _ => exact .nil
theorem pe_calB {X : Cx} {x : Str} {p pos : Pos} {kws : List Keyword} {tk : TA} {k : Nat} {ps ks : List Str} {sp : Sp} (c : CalB X.prog X.w X.K X.mg X.base x k ps ks sp) (hr : Room k X.A) (hkw : PK X kws tk) (hg : Gl X x := by rfl)
    (hall : (backToKw pos (keywordEach kws X.env)).all (·.1.isSome) = true := by rfl) (hks : (backToKw pos (keywordEach kws X.env)).filterMap (·.1) = ks := by rfl)
    (hdb : (x == ("__debug__" : Str)) = false := by decide) (hpl : ((backTo pos (starEach [] X.env)).any (·.1) || (backToKw pos (keywordEach kws X.env)).any (·.1.isNone)) = false := by rfl) :
    PE X (.Call (.Name x p) [] kws pos) (tCallK sp TW.back E0 tNil tk) := by
  obtain ⟨f, fd, hm, hk, hb, F⟩ := c.ex
  refine ⟨fun pins s σ H Q I h => ?_⟩
  refine wpAny_Call_Name_kw (ld_glob I hg hm ?_ hdb)
  refine PySem.W.callWith_KW0 (h₀ := X.base) I.ok.mod.kin hk hall (thn (hkw.run pos pins s σ H _ I h) fun ws s2 ⟨zs, H2, I2, rz, q2⟩ => ⟨I2.kIn, ?_⟩) hpl
  rw [hks]
  exact run_fnk F hr hb pass0 I2 .nil rz q2
end TW
set_option Elab.async false
set_option linter.all false
set_option maxRecDepth 100000
set_option maxHeartbeats 8000000
/-! objects made, dicts of pairs, defs for their callers (these stand in TwOneD, TwOneR, TwLaw for k06, too) -/
namespace TW
open PySem PySem.Spec PyProof.Rows L2 RZ StX
open Evl (Ex)
theorem ite_val {b : Bool} {A : Int → Prop} {x y : Int} (h : ∀ z, z = x ∨ z = y → A z) : if b = true then A x else A y := by
  cases b
  · exact iteF (h y (.inr rfl))
  · exact iteT (h x (.inl rfl))
theorem paired_up {α β : Type} {R R' : α → β → Prop} (h : ∀ x y, R x y → R' x y) : ∀ {xs : List α} {ys : List β}, Paired R xs ys → Paired R' xs ys
  | _, _, .nil => .nil
  | _, _, .cons r t => .cons (h _ _ r) (paired_up h t)
theorem valV_at : ∀ {kvs : List (Key × V)} {i : Nat} {k : Key} {v : V}, (kvs.map (·.1)).Nodup → kvs[i]? = some (k, v) → valV kvs k = some v
  | [], _, _, _, _, h => by simp at h
  | q :: r, 0, k, v, _, h => by
    simp at h
    subst h
    exact valV_pos rfl
  | q :: r, i + 1, k, v, nd, h => by
    have nd' := List.nodup_cons.mp nd
    have h' : r[i]? = some (k, v) := by simpa using h
    rw [valV_neg (fun e => nd'.1 (by show q.1 ∈ _; rw [e]; exact List.mem_map_of_mem (f := fun z : Key × V => z.1) (List.mem_of_getElem? h')))]
    exact valV_at nd'.2 h'
theorem make_gr {F H F4 H4 : Hp} {x dx C : Addr} (fs : Sees F H) (hx : H x = none) (hdx : H dx = none) (ne : dx ≠ x) (g : Gr [x] F (upd (upd H dx (.own x)) x (.ins C dx [])) F4 H4) (fx : F4 x = none) : Gr [] F H (upd F4 x ((H4 x).getD (.own 0))) H4 := by
  have n1 : upd H dx (.own x) x = none := by rw [upd_ne (Ne.symm ne)]; exact hx
  have g3 := ((Gr.refl (B := []) fs).newM (o := .own x) hdx).newM (o := .ins C dx []) n1
  have hx4 : H4 x ≠ none := fun z => by
    have z2 := g.dm x z
    rw [upd_same] at z2
    cases z2
  obtain ⟨o, ho⟩ := Option.ne_none_iff_exists'.mp hx4
  rw [ho]
  exact (g3.trans g (fun b hb => .inr (by rw [List.mem_singleton.mp hb]; exact hx))).done hx fx ho
theorem make_sees {F H : Hp} {x dx C : Addr} (fs : Sees F H) (hx : H x = none) (hdx : H dx = none) (ne : dx ≠ x) : Sees F (upd (upd H dx (.own x)) x (.ins C dx [])) :=
  (((Gr.refl (B := []) fs).newM (o := .own x) hdx).newM (o := .ins C dx []) (by rw [upd_ne (Ne.symm ne)]; exact hx)).fh
theorem sortableI (l : List Int) : PySem.W.Sortable (l.map PyData.int) := PySem.W.Sortable.others fun b => ⟨by simp, fun xs => by simp⟩
theorem mergeK_app : ∀ {more acc : List (Key × V)}, ((acc ++ more).map (·.1)).Nodup → mergeK acc more = acc ++ more
  | [], acc, _ => by simp [mergeK]
  | kv :: r, acc, h => by
    have hn : (acc.any fun q => decide (q.1 = kv.1)) = false := by
      rw [Bool.eq_false_iff]
      intro z
      obtain ⟨q, q1, q2⟩ := List.any_eq_true.mp z
      rw [List.map_append] at h
      exact (List.nodup_append.mp h).2.2 q.1 (List.mem_map_of_mem q1) kv.1 (by simp) (of_decide_eq_true q2)
    have e : putK acc kv.1 kv.2 = acc ++ [kv] := by
      unfold putK
      rw [hn]
      rfl
    show mergeK (putK acc kv.1 kv.2) r = _
    rw [e, mergeK_app (by simpa using h)]
    simp
theorem mergeK_nil {more : List (Key × V)} (h : (more.map (·.1)).Nodup) : mergeK [] more = more := by
  have z := mergeK_app (more := more) (acc := []) (by simpa using h)
  simpa using z
section
variable {P : Program} {w : World} {K : PySem.W.Frag} {mg : Str → Option Value} {base : Heap}

theorem ne_nil {l : List Str} (hl : ∀ z ∈ l, PyData.strOk z = true) {x : V} {H : Hp} {Q : VK} {p : Addr} (hx : Dp K H x (.list (l.map .str))) (hp : H p = some (.lst [])) (q : Q (.bl (!decide (l = []))) H) : rNeDD K x (.ref p) H Q :=
  .mk ⟨_, .list [], hx, .lst (.inl (.inl hp)) .nil, flat1_shaped (ds := l.map .str) fun e he => by
    obtain ⟨z, hz, rfl⟩ := List.mem_map.mp he
    exact hl z hz, rfl, by
    rw [eqv_nil, show decide (l.map PyData.str = []) = decide (l = []) by simp]
    exact q⟩
theorem cal_of {x : Str} {st : Stmt} {f : Addr} {fd : FuncData} {k : Nat} {ps : List Str} {sp : Sp} (F : Fun K x x st f fd) (hm : mg x = some (.ref f)) (b : Binds K fd ps []) (o : FnOk P w K mg base CX0 k f fd ps sp) : Cal P w K mg base x k ps [] sp :=
  ⟨f, fd, [], hm, F.kp, .nil, b, o⟩
theorem calB_of {x : Str} {st : Stmt} {f : Addr} {fd : FuncData} {k : Nat} {ps ks : List Str} {sp : Sp} (F : Fun K x x st f fd) (hm : mg x = some (.ref f)) (b : KBinds K fd ps ks back back) (o : FnOk P w K mg base CX0 k f fd ps sp) : CalB P w K mg base x k ps ks sp :=
  ⟨f, fd, hm, F.kp, b, o⟩
theorem fund_mk {x qual : Str} {st : Stmt} {f T : Addr} {oc tc : Value} {od an td : Option Addr} {osl tsl : Array (Option Value)} {kV doc pm cdv ct u : Value} {v : V} {n : Nat} (l : K.lookup f = some ⟨oc, od, .func (PySem.W.fnOf x qual (defArgs st) (defBody st) (defScope st) (.ref T) kV doc pm an cdv ct), osl⟩)
    (c : PySem.W.codeIn K cdv qual = true) (k : PySem.W.keepIn K (.ref f) = true) (lT : K.lookup T = some ⟨tc, td, .seq #[u] n, tsl⟩) (hv : L2.RelV v u) : FunD K x qual (defArgs st) (defBody st) (defScope st) [v] [] f (PySem.W.fnOf x qual (defArgs st) (defBody st) (defScope st) (.ref T) kV doc pm an cdv ct) :=
  ⟨⟨oc, od, .ref T, kV, doc, pm, an, cdv, ct, osl, rfl, l, c, .inr ⟨by simp, T, _, [u], n, rfl, lT, rfl, .cons hv .nil⟩, .inl rfl⟩, k⟩
theorem calD_of {x : Str} {st : Stmt} {f : Addr} {fd : FuncData} {k : Nat} {ps : List Str} {sp : Sp} {v : V} {dvs : List V} (F : FunD K x x (defArgs st) (defBody st) (defScope st) [v] [] f fd) (hm : mg x = some (.ref f)) (b : ∃ ds, Vals dvs ds ∧ Binds K fd ps ds) (o : FnOk P w K mg base CX0 k f fd ps sp) : Cal P w K mg base x k ps dvs sp := by
  obtain ⟨ds, h1, h2⟩ := b
  exact ⟨f, fd, ds, hm, F.kp, h1, h2, o⟩
theorem cons_of {h : Heap} {x : Str} {v : V} {u : Value} (X : K.In h) (G : h.Ns mainGlobals mg) (a : PySem.W.nsIn K mainGlobals x = some (some u)) (r : L2.RelV v u) : ∃ u, mg x = some u ∧ L2.RelV v u := ⟨u, PySem.W.mg_of X G a, r⟩
end
end TW
set_option Elab.async false
set_option linter.all false
set_option maxRecDepth 100000
set_option maxHeartbeats 16000000
/-! k05: one drawn world -/
namespace TW
open PySem PySem.Spec PyProof.Rows L2 RZ StX
open Evl (Ex)
structure W5 (many : Int) (sounds : List Str) (A : List Arr) (S : List Int) (m : Str → List Str) (s : SpD) (wd : WaD) (es : List Str) : Prop where
  m4 : 2 ≤ many ∧ many ≤ 4
  s3 : sounds.length ≤ 3
  lA : A.length ≤ 6
  ar : ∀ a ∈ A, 0 ≤ a.1 ∧ a.1 < many ∧ a.2.1 ∈ sounds ∧ 0 ≤ a.2.2 ∧ a.2.2 < many
  srt : S.Pairwise (· < ·)
  st : ∀ z ∈ S, 0 ≤ z ∧ z < many
  ne : S ≠ []
  mks : ∀ k ∈ sounds, okM (pool true sounds) (m k)
  so : s.Ok
  wo : wd.Ok
  sA : s.A.Perm A
  sS : s.S = S
  wk : wd.ks.Perm sounds
  wm : ∀ k ∈ sounds, (wd.m k).Perm (m k)
  en : es.Nodup
  em : ∀ z, z ∈ es ↔ z ≠ "" ∧ ∃ k ∈ sounds, z ∈ m k
section
variable {many : Int} {sounds : List Str} {A : List Arr} {S : List Int} {m : Str → List Str} {s : SpD} {wd : WaD} {es : List Str}
theorem W5.R (o : W5 many sounds A S m s wd es) (x : Int × Str × Int) : x ∈ trip wd.m s.A ↔ x ∈ trip m A :=
  trip_same (fun a => o.sA.mem_iff) (fun a ha z => (o.wm _ (o.ar a (o.sA.mem_iff.mp ha)).2.2.1).mem_iff) x
theorem W5.all (o : W5 many sounds A S m s wd es) (z : Str) : z ∈ wd.all ↔ z ∈ es := by
  rw [o.wo.al, o.em]
  exact and_congr Iff.rfl ⟨fun ⟨k, h1, h2⟩ => ⟨k, o.wk.mem_iff.mp h1, (o.wm k (o.wk.mem_iff.mp h1)).mem_iff.mp h2⟩, fun ⟨k, h1, h2⟩ => ⟨k, o.wk.mem_iff.mpr h1, (o.wm k h1).mem_iff.mpr h2⟩⟩
theorem W5.e7 (o : W5 many sounds A S m s wd es) : es.length ≤ 7 := by
  have h := nodup_le (l := es) (m := pool true sounds) o.en fun z hz => by
    obtain ⟨h1, k, h2, h3⟩ := (o.em z).mp hz
    exact ((o.mks k h2).2.2.2 z h3).resolve_left h1
  have := o.s3
  unfold pool at h
  rw [if_pos rfl, List.length_append] at h
  have e4 : (["x", "y+", "-z", "w"] : List Str).length = 4 := rfl
  omega
theorem W5.p4 (o : W5 many sounds A S m s wd es) : s.P.length ≤ 4 := by
  have h := nodup_le (l := s.P) (m := (List.range 4).map fun i : Nat => (i : Int)) (o.so.asc.imp fun h e => Int.ne_of_lt h e) fun z hz => by
    have r : 0 ≤ z ∧ z < many := by
      rcases (o.so.pl z).mp hz with h | ⟨b, hb, rfl⟩ | ⟨b, hb, rfl⟩
      · rw [o.sS] at h; exact o.st z h
      · obtain ⟨q1, q2, q3, q4, q5⟩ := o.ar b (o.sA.mem_iff.mp hb)
        exact ⟨q1, q2⟩
      · obtain ⟨q1, q2, q3, q4, q5⟩ := o.ar b (o.sA.mem_iff.mp hb)
        exact ⟨q4, q5⟩
    have := o.m4
    exact List.mem_map.mpr ⟨z.toNat, List.mem_range.mpr (by omega), by omega⟩
  simpa using h
theorem W5.bnd (o : W5 many sounds A S m s wd es) : Bnd s wd where
  A := by have := o.sA.length_eq; have := o.lA; omega
  P := by have := o.p4; omega
  L := by
    have z := nodup_le (l := wd.all) (m := es) o.wo.an fun z hz => (o.all z).mp hz
    have := o.e7
    omega
  m := fun k hk => by
    have hk := o.wk.mem_iff.mp hk
    rw [(o.wm k hk).length_eq]
    exact (o.mks k hk).2.1
  Z := fun z hz => by
    obtain ⟨b, hb, rfl⟩ := (o.so.so z).mp hz
    exact o.wk.mem_iff.mpr (o.ar b (o.sA.mem_iff.mp hb)).2.2.1
/-- what is listed is what is known -/
theorem W5.law (o : W5 many sounds A S m s wd es) {mm : List (List Str × List Int)} {n : Nat} (hn : many = (n : Int)) (ok : MOk mm fun x => ∃ k, k ≤ 3 * n ∧ Lay (trip m A) (· ∈ S) k x) {row : List Str} (hr : RowOk es row) (q : Int) :
    q ∈ look mm row ↔ Goes (trip wd.m s.A) (ReachP (trip wd.m s.A) (· ∈ s.S)) row q := by
  rw [ok.mem, lay_known (many := n) (fun p k q e => by
    obtain ⟨z, z1, _⟩ := mem_trip.mp e
    obtain ⟨q1, q2, q3, q4, q5⟩ := o.ar _ z1
    exact ⟨⟨q1, by rw [← hn]; exact q2⟩, q4, by rw [← hn]; exact q5⟩) (fun z hz => by rw [← hn]; exact o.st z hz) hr.1 (fun k hk => ((o.em k).mp (hr.2 k hk)).1) q, o.sS]
  exact (Goes.same o.R (fun y => ReachP.same o.R (fun _ => Iff.rfl) y) q).symm
end
/-! ### rows in a list -/
abbrev RowsR (F : Hp) (vs : List V) (xs : List (List Str)) : Prop := Paired (fun v row => ∃ c, v = .ref c ∧ F c = some (.tup (row.map V.str))) vs xs
theorem RowsR.ex {F F' : Hp} {vs : List V} {xs : List (List Str)} (r : RowsR F vs xs) (e : Ex F F') : RowsR F' vs xs := Paired.mapP r fun _ _ ⟨c, h1, h2⟩ => ⟨c, h1, e _ _ h2⟩
theorem RowsR.append {F : Hp} : ∀ {vs ws : List V} {xs ys : List (List Str)}, RowsR F vs xs → RowsR F ws ys → RowsR F (vs ++ ws) (xs ++ ys)
  | _, _, _, _, .nil, q => q
  | _, _, _, _, .cons h t, q => .cons h (RowsR.append t q)
theorem RowsR.keys {F : Hp} : ∀ {vs : List V} {xs : List (List Str)}, RowsR F vs xs → ∃ ks : List (Addr × List Key), vs = ks.map (fun p => V.ref p.1) ∧ ks.map (·.2) = xs.map kS ∧ ∀ p ∈ ks, F p.1 = some (.tup (p.2.map kV))
  | _, _, .nil => ⟨[], rfl, rfl, fun _ z => nomatch z⟩
  | _, _, .cons (a := v) (b := row) ⟨c, h1, h2⟩ t => by
    obtain ⟨ks, e1, e2, e3⟩ := RowsR.keys t
    refine ⟨(c, kS row) :: ks, by rw [h1, e1]; rfl, by rw [List.map_cons, List.map_cons, e2], fun p m => ?_⟩
    rcases List.mem_cons.mp m with rfl | m
    · show F c = some (.tup ((kS row).map kV))
      rw [kS_V]; exact h2
    · exact e3 p m
theorem alike_kS : ∀ (a b : List Str), PySem.W.alikeAll ((kS a).map encKey) ((kS b).map encKey) = true
  | [], _ => by simp [kS, PySem.W.alikeAll]
  | _ :: _, [] => by simp [kS, PySem.W.alikeAll]
  | x :: a, y :: b => by
    have ih := alike_kS a b
    unfold kS at ih ⊢
    simp only [List.map_cons, encKey, PySem.W.alikeAll, PySem.W.alike, Bool.true_and]
    exact ih
/-- the rows after so many marks of a turn -/
def rowsX (es : List Str) (turn j : Nat) : List (List Str) := if turn = 0 then [] :: (es.take j).map (fun k => [k]) else ([] :: es.map fun k => [k]) ++ (es.take j).flatMap fun k => es.map fun e => [e, k]
theorem rowsX_ok {es : List Str} {turn j : Nat} {row : List Str} (h : row ∈ rowsX es turn j) : RowOk es row := by
  unfold rowsX at h
  split at h
  · rcases List.mem_cons.mp h with rfl | h
    · exact ⟨Nat.zero_le _, fun _ z => nomatch z⟩
    · obtain ⟨k, hk, rfl⟩ := List.mem_map.mp h
      exact ⟨by simp, fun z hz => by rw [List.mem_singleton.mp hz]; exact List.mem_of_mem_take hk⟩
  · rcases List.mem_append.mp h with h | h
    · rcases List.mem_cons.mp h with rfl | h
      · exact ⟨Nat.zero_le _, fun _ z => nomatch z⟩
      · obtain ⟨k, hk, rfl⟩ := List.mem_map.mp h
        exact ⟨by simp, fun z hz => by rw [List.mem_singleton.mp hz]; exact hk⟩
    · obtain ⟨k, hk, h⟩ := List.mem_flatMap.mp h
      obtain ⟨e, he, rfl⟩ := List.mem_map.mp h
      refine ⟨by simp, fun z hz => ?_⟩
      simp only [List.mem_cons, List.not_mem_nil, or_false] at hz
      rcases hz with rfl | rfl
      · exact he
      · exact List.mem_of_mem_take hk
theorem rowsX_len {es : List Str} (l : es.length ≤ 7) (turn j : Nat) : (rowsX es turn j).length ≤ 57 := by
  unfold rowsX
  have t : (es.take j).length ≤ es.length := by rw [List.length_take]; omega
  split
  · rw [List.length_cons, List.length_map]; omega
  · have z := flat_le (f := fun k => es.map fun e => [e, k]) (c := 7) (es.take j) fun k _ => by rw [List.length_map]; exact l
    rw [List.length_append, List.length_cons, List.length_map]
    omega
/-- what a mark adds -/
theorem rowsX_step {es : List Str} {turn j : Nat} {k : Str} (tn : turn < 2) (h : es[j]? = some k) : rowsX es turn j ++ ((rowsX es turn j).filter fun r => decide (r.length = turn)).map (· ++ [k]) = rowsX es turn (j + 1) := by
  have tk : es.take (j + 1) = es.take j ++ [k] := by rw [List.take_add_one, h]; rfl
  match turn, tn with
  | 0, _ =>
    unfold rowsX
    simp only [if_true, tk]
    rw [List.filter_cons_of_pos (by rfl)]
    have z : ((es.take j).map fun k => [k]).filter (fun r => decide (r.length = 0)) = [] := by
      rw [List.filter_eq_nil_iff]
      intro r hr
      obtain ⟨y, _, rfl⟩ := List.mem_map.mp hr
      simp
    rw [z]
    simp
  | 1, _ =>
    unfold rowsX
    simp only [Nat.one_ne_zero, if_false, tk]
    rw [List.flatMap_append, List.flatMap_singleton, ← List.append_assoc]
    congr 1
    rw [List.filter_append]
    have z1 : (([] : List Str) :: es.map fun k => [k]).filter (fun r => decide (r.length = 1)) = es.map fun k => [k] := by
      rw [List.filter_cons_of_neg (by simp), List.filter_eq_self.mpr]
      intro r hr
      obtain ⟨y, _, rfl⟩ := List.mem_map.mp hr
      rfl
    have z2 : ((es.take j).flatMap fun k => es.map fun e => [e, k]).filter (fun r => decide (r.length = 1)) = [] := by
      rw [List.filter_eq_nil_iff]
      intro r hr
      obtain ⟨y, _, hr⟩ := List.mem_flatMap.mp hr
      obtain ⟨y2, _, rfl⟩ := List.mem_map.mp hr
      simp
    rw [z1, z2, List.append_nil, List.map_map]
    rfl
theorem fact5 {sounds : List Str} (so : sounds = (["a", "b"] : List Str) ∨ sounds = (["a", "b", "c"] : List Str) ∨ sounds = (["a", "b", "h"] : List Str)) : ∀ z ∈ sounds, PyData.strOk z = true ∧ z ∉ (["x", "y+", "-z", "w"] : List Str) := by
  rcases so with rfl | rfl | rfl <;> decide +kernel
theorem extra_ok : ∀ z ∈ (["x", "y+", "-z", "w"] : List Str), z.length ≤ 1000 ∧ isHeard (.str z) = true := by decide +kernel
theorem rowsX_next (es : List Str) : rowsX es 0 es.length = rowsX es 1 0 := by
  unfold rowsX
  simp
def rowsT (es : List Str) (i : Nat) : List (List Str) := if i = 0 then rowsX es 0 0 else rowsX es (i - 1) es.length
theorem rowsT_lt {es : List Str} {i : Nat} (h : i < 2) : rowsT es i = rowsX es i 0 := by
  match i, h with
  | 0, _ => rfl
  | 1, _ => exact rowsX_next es
theorem rowsT_succ (es : List Str) (i : Nat) : rowsT es (i + 1) = rowsX es i es.length := rfl
section
variable {K : PySem.W.Frag} {CS CW : Addr} {many : Int} {sounds : List Str} {A : List Arr} {S : List Int} {m : Str → List Str} {s : SpD} {wd : WaD} {es : List Str} {F H : Hp} {sx wx : Addr} {Q : VK}
/-- known, asked -/
theorem known_at (o : W5 many sounds A S m s wd es) (fh : Sees F H) (sp : SpAt K CS F sx s) (wa : WaAt K CW F wx wd) {v : V} {d : PyData} {row : List Str} (hv : Dp K F v d) (hq : isSeq d (row.map .str)) (ok : RowOk es row)
    (q : ∀ (r : V) (ns : List Int) F' H', Gr [] F H F' H' → Dp K F' r (.tuple (ns.map .int)) → ns.Pairwise (· < ·) → (∀ z, z ∈ ns ↔ Goes (trip wd.m s.A) (ReachP (trip wd.m s.A) (· ∈ s.S)) row z) → Q r H') : spKnown K CS CW [.ref sx, .ref wx, v] H Q E0 :=
  ⟨F, sx, wx, v, d, row, s, wd, rfl, fh, sp, wa, o.bnd, by rw [o.sS]; exact nodup_asc o.srt, hv, hq, fun k hk => (o.all k).mpr (ok.2 k hk), fun r ns F' H' g hr pw mem => q r ns F' H' g hr pw mem⟩
/-- found.get(row, []) -/
theorem found_at {kvs : List (List Key × V)} {mm : List (List Str × List Int)} {L : Addr} (mq : MapQ kS (ListV F) kvs mm) (fL : F L = some (.lst [])) (row : List Str) : ∃ L', (valV kvs (kS row)).getD (.ref L) = .ref L' ∧ F L' = some (.lst ((look mm row).map V.int)) := by
  unfold look
  rcases MapQ.get kS_inj mq row with ⟨h1, h2⟩ | ⟨ns, v, h1, h2, L', h3, h4⟩
  · rw [h1, h2]
    exact ⟨L, rfl, fL⟩
  · rw [h1, h2]
    exact ⟨L', h3, h4⟩
/-- found[row], there -/
theorem found_in {kvs : List (List Key × V)} {mm : List (List Str × List Int)} (mq : MapQ kS (ListV F) kvs mm) {row : List Str} (ne : look mm row ≠ []) : ∃ L', valV kvs (kS row) = some (.ref L') ∧ F L' = some (.lst ((look mm row).map V.int)) := by
  unfold look at ne ⊢
  rcases MapQ.get kS_inj mq row with ⟨h1, h2⟩ | ⟨ns, v, h1, h2, L', h3, h4⟩
  · rw [h1] at ne
    exact absurd rfl ne
  · rw [h1, h2, h3]
    exact ⟨L', rfl, h4⟩
end
end TW
set_option Elab.async false
set_option linter.all false
set_option maxRecDepth 100000
set_option maxHeartbeats 16000000
/-! k05: one drawn world, walked -/
namespace TW
open PySem PySem.Spec PyProof.Rows L2 RZ StX
open Evl (Ex)
def spOne5 (K : PySem.W.Frag) : Sp := fun vs H Q _ => ∃ (F : Hp) (p : Addr) (t : Int), vs = [.ref p] ∧ Sees F H ∧ PenAt K F H p t ∧ t + 200 ≤ 1000000 ∧ ∀ F' H' t', Gr [p] F H F' H' → PenAt K F' H' p t' → t ≤ t' → t' ≤ t + 200 → Q (.bl true) H'
section
variable {P : Program} {w : World} {K : PySem.W.Frag} {mg : Str → Option Value} {base : Heap}
theorem ok_one5 {CS CW Ek f : Addr} {fd : FuncData} (F : Fun K "_law_one_right" "_law_one_right" s__law_one_right f fd) (T : Txt mg) (C__law_draw : Cal P w K mg base "_law_draw" 1 ["pen", "many"] [] (spDraw K))
    (C__law_plain : Cal P w K mg base "_law_plain" 4 ["pen", "many", "number"] [] (spLPlain K)) (C__law_marks : Cal P w K mg base "_law_marks" 3 ["pen", "sounds", "is_wide"] [] (spLMarks K)) (C__law_all_marks : Cal P w K mg base "_law_all_marks" 1 ["arrows", "marks"] [] (spAllMarks K))
    (C__law_listed : Cal P w K mg base "_law_listed" 1 ["arrows", "starts", "marks", "steps", "length"] [] (spTalks K)) (M_Speech : Mkr P w K mg base "Speech" CS 4 ["self", "arrows", "starts"] (spSpI K CS)) (M_Wall : Mkr P w K mg base "Wall" CW 4 ["self", "marks"] (spWaI K CW))
    (C_known : Cal P w K mg base "known" 4 ["speech", "wall", "row"] [] (spKnown K CS CW)) (C_known0 : Cal P w K mg base "known" 4 ["speech", "wall", "row"] [.ref Ek] (spKnown K CS CW)) (CB_known : CalB P w K mg base "known" 4 ["speech", "wall", "row"] ["row", "wall", "speech"] (spKnown K CS CW))
    (kE : ∀ F : Hp, SqT K F Ek []) : FnOk P w K mg base CX0 6 f fd ["pen"] (spOne5 K) := by
  refine F.ok sc__law_one_right (fun vs H Q E h => ?_) (fun cdv A0 outer s H vs Q E hr h => ?_)
  · obtain ⟨F0, p, t, rfl, _⟩ := h
    rfl
  · obtain ⟨F0, p, t, rfl, fs, hp, ht, q⟩ := h
    have hu := hu_of hr
    have hu3 := hu3_of hr
    have hu8 := hu8_of hr
    have hu16 := hu16_of hr
    have hu64 := hr.units
    have lz : 100000 < sizeLine := by rw [sizeLine_eq]; decide
    refine ⟨_, (pss_cons (zs (i := 1) sc__law_one_right.nd (pe_op op_add pe_int (pe_cal C__law_draw (hr.mono (by decide)) (pa_cons (pv 0) (pa_cons pe_int pa_nil)))))
      (pss_cons (ps_asg (pe_cal C__law_plain (hr.mono (by decide)) (pa_cons (pv 0) (pa_cons (pv 1) (pa_cons (pe_op op_add pe_int (pe_cal C__law_draw (hr.mono (by decide)) (pa_cons (pv 0) (pa_cons pe_int pa_nil)))) pa_nil)))) (zpg (n := 3) K (pgs_cons (zg (i := 2) sc__law_one_right.nd) (pgs_cons (zg (i := 3) sc__law_one_right.nd) (pgs_cons (zg (i := 4) sc__law_one_right.nd) pgs_nil)))))
      (pss_cons (zs (i := 4) sc__law_one_right.nd (pe_cal C__law_marks (hr.mono (by decide)) (pa_cons (pv 0) (pa_cons (pe_callB (cr_sortedD K hu16) (by rfl) T.sorted bt_sorted (pa_cons (pe_callTy (call_listD rfl) (by rfl) T.list bt_list (pa_cons (pv 4) pa_nil)) pa_nil)) (pa_cons pe_bl pa_nil)))))
      (pss_cons (zpar3 (i := 5) (j := 6) (l := 7) sc__law_one_right.nd (pa_cons (pe_mk M_Speech (hr.mono (by decide)) (pa_cons (pv 2) (pa_cons (pv 3) pa_nil))) (pa_cons (pe_mk M_Wall (hr.mono (by decide)) (pa_cons (pv 4) pa_nil)) (pa_cons (pe_cal C__law_all_marks (hr.mono (by decide)) (pa_cons (pv 2) (pa_cons (pv 4) pa_nil))) pa_nil))))
      (pss_cons (zs (i := 8) sc__law_one_right.nd (pe_cal C__law_listed (hr.mono (by decide)) (pa_cons (pv 2) (pa_cons (pv 3) (pa_cons (pv 4) (pa_cons (pe_op op_mul pe_int (pv 1)) (pa_cons pe_int pa_nil)))))))
      (pss_cons (zs (i := 9) sc__law_one_right.nd (pe_lst (pa_cons (pe_tup pa_nil) pa_nil)))
      (pss_cons (ps_for PassesOwn.never rfl (pi_range1 rfl T.range (pa_cons pe_int pa_nil)) (zg (i := 10) sc__law_one_right.nd)
        (pss_one (ps_for PassesOwn.never rfl (zseq K (pv 7)) (zg (i := 11) sc__law_one_right.nd)
          (pss_one (zs (i := 9) sc__law_one_right.nd (pe_op op_cat (pv 9) (pe_lc (own := [("row", 12)]) rfl sc__law_one_right.nd (zseq K (pe_callTy (cr_list K) (by rfl) T.list bt_list (pa_cons (pv 9) pa_nil))) (blkOk_by (N := sc__law_one_rightN) (sc := defScope s__law_one_right) (by decide +kernel)) (fun _ _ _ _ _ => (zg (i := 12) sc__law_one_right.nd)) (fun _ _ _ _ _ => (pts_one (pt_cmpR op_eq (pe_callB (cr_len K) (by rfl) T.len bt_len (pa_cons (pv 12) pa_nil)) (pv 10) (nomark _)))) (fun _ _ _ _ _ => (pe_op (op_catAK K) (pv 12) (pe_tup (pa_cons (pv 11) pa_nil)))))))))))
      (pss_cons (ps_for PassesOwn.never rfl (zseq K (pe_callB (cr_sortedUP K P w hu8) (by rfl) T.sorted bt_sorted (pa_cons (pe_callTy (cr_setUP K P w hu3) (by rfl) T.set bt_set (pa_cons (pv 9) pa_nil)) pa_nil))) (zg (i := 12) sc__law_one_right.nd)
        (pss_one (ps_if (PW.pt (pw_and (pt_cmpR op_le (pe_callB (cr_len K) (by rfl) T.len bt_len (pa_cons (pv 12) pa_nil)) pe_int (nomark _)) (pw_and1 (pt_cmpR (op_neDD K hu64) (pe_cal C_known (hr.mono (by decide)) (pa_cons (pv 5) (pa_cons (pv 6) (pa_cons (pe_callTy (cr_list K) (by rfl) T.list bt_list (pa_cons (pv 12) pa_nil)) pa_nil)))) (pe_callTy (cr_tuple K) (by rfl) T.tuple bt_tuple (pa_cons (pe_dget2 hu (pv 8) (pv 12) (pe_lst pa_nil) (m2_of rfl)) pa_nil)) (nomark _)))))
          (pss_one (ps_ret pe_bl))
          pss_nil)))
      (pss_one (ps_ret (pe_and (pe_cmpR (op_eqDD K hu64) (pe_calB CB_known (hr.mono (by decide)) (pk_cons (pe_tup pa_nil) (pk_cons (pv 6) (pk_cons (pv 5) pk_nil)))) (pe_callTy (cr_tuple K) (by rfl) T.tuple bt_tuple (pa_cons (pe_dget hu (pv 8) (pe_tup pa_nil) (fun _ _ => rfl)) pa_nil)) (nomark _)) (pe_one (pe_cmpR (op_eqDD K hu64) (pe_cal C_known0 (hr.mono (by decide)) (pa_cons (pv 5) (pa_cons (pv 6) pa_nil))) (pe_callTy (cr_tuple K) (by rfl) T.tuple bt_tuple (pa_cons (pe_dget hu (pv 8) (pe_tup pa_nil) (fun _ _ => rfl)) pa_nil)) (nomark _)))))))))))))), ?_⟩
    refine ⟨_, rfl, F0, p, 3, t, rfl, fs, hp, by omega, by decide, by decide, fun d1 t1 F1 H1 a0 a1 u1 u2 g1 hp1 => ⟨_, _, rfl, rfl, ?_⟩⟩
    obtain ⟨many, hmany⟩ : ∃ n : Nat, 2 + d1 = (n : Int) := ⟨(2 + d1).toNat, by omega⟩
    dsimp only
    rw [hmany]
    have m4 : 2 ≤ (many : Int) ∧ (many : Int) ≤ 4 := by omega
    refine ⟨_, rfl, _, rfl, _, rfl, F1, p, 4, t1, rfl, g1.fh, hp1, by omega, by decide, by decide, fun d2 t2 F2 H2 b0 b1 u3 u4 g2 hp2 => ⟨_, _, rfl, rfl, ?_⟩⟩
    obtain ⟨n2, rfl⟩ : ∃ n : Nat, d2 = (n : Int) := ⟨d2.toNat, by omega⟩
    have g02 := g1.trans g2 fun b hb => .inl hb
    refine ⟨F2, p, many, 3 + n2, t2, by rw [show ((3 + n2 : Nat) : Int) = 3 + (n2 : Int) by omega]; rfl, g2.fh, hp2, by omega, by omega, by omega, by omega, fun r a va vst kvs sounds AA S m t3 F3 H3 fr fa ha dA dS tl pok u5 u6 g3 hp3 => ?_⟩
    have g03 := g02.trans g3 fun b hb => .inl hb
    obtain ⟨snd, s0, s3, sne, sOk⟩ := PlainOk.facts pok.so
    have lA : AA.length ≤ 6 := by have := pok.len; omega
    have lS := pok.sl
    refine ⟨r, _, rfl, sees_t g3.fh (.inl (.inl fr)), rfl, _, _, rfl, _, _, rfl, _, _, rfl, rfl, ?_⟩
    dsimp only [List.set_cons_zero, List.set_cons_succ]
    clear g1 g2 g3 g02 hp1 hp2 fr
    -- marks, wide
    refine ⟨_, rfl, _, rfl, a, kvs, rfl, .inl ha, fun p1 hp1 => ?_⟩
    rw [tells_keys tl]
    have gB := (Gr.refl (B := []) g03.fh).new (o := .lst (sounds.map V.str)) hp1
    refine ⟨Str, eS, sounds, p1, sounds.map V.str, _, rfl, gB.fh, .inl (.inl upd_same), dps_str.mpr rfl, alikeS _, sortableS _, fun b _ => eS_depth b, fun ys p2 hy hp2 => ?_⟩
    generalize ek : sounds.mergeSort (PySem.W.dataLe false eS) = ks2 at hy
    have pk : ks2.Perm sounds := ek ▸ List.mergeSort_perm _ _
    have hys := dps_str.mp hy
    subst hys
    have gC := gB.new (o := .lst (ks2.map V.str)) hp2
    have dK2 : Dp K (upd (upd F3 p1 (.lst (sounds.map V.str))) p2 (.lst (ks2.map V.str))) (.ref p2) (.list (ks2.map .str)) := .lst (.inl (.inl upd_same)) (dps_str.mpr rfl)
    have hp4 := hp3.gr gC (by simp)
    have g04 := g03.trans gC
    have dA4 := dA.ex gC.ff
    have dS4 := dS.ex gC.ff
    generalize upd (upd H3 p1 (.lst (sounds.map V.str))) p2 (.lst (ks2.map V.str)) = H4 at gC hp4 g04 ⊢
    generalize upd (upd F3 p1 (.lst (sounds.map V.str))) p2 (.lst (ks2.map V.str)) = F4 at gC dK2 hp4 g04 dA4 dS4
    clear gB hy hp1 hp2 hp3 g03 dA dS tl fa ha
    have kl := pk.length_eq
    refine ⟨F4, p, .ref p2, ks2, t3, true, rfl, gC.fh, hp4, dK2, pk.nodup_iff.mpr snd, by omega, by omega, by omega, fun z => sne (pk.mem_iff.mp z), fun _ z hz => fact5 pok.so z (pk.mem_iff.mp hz), fun a2 kvs2 m2 t5 F5 H5 fa5 ha5 tl5 okm u7 u8 g5 hp5 => ?_⟩
    have g05 := g04.trans g5 fun b hb => .inl hb
    have dA5 := dA4.ex g5.ff
    have dS5 := dS4.ex g5.ff
    clear gC dK2 hp4 g04 dA4 dS4 g5
    -- the speech
    refine ⟨_, rfl, _, rfl, fun x dx hx hdx nex => ?_⟩
    refine ⟨F5, x, dx, va, vst, _, _, AA, S, encA, rfl, upd_same, g05.fh.dm hx, make_sees g05.fh hx hdx nex, dA5, .inl rfl, fun a => .inr rfl, dS5, .inl rfl, by omega, by omega, List.all_eq_true.mpr fun b hb => ?_, fun b hb => ?_, pok.nd, (lot_of pok.srt fun z hz => ?_).1, pok.ne, fun s' F6 H6 sA sS g6 fx6 hsp => ⟨rfl, ?_⟩⟩
    · obtain ⟨q1, q2, q3, q4, q5⟩ := pok.ar b hb
      have w1 : b.1 ≤ 399 := by omega
      have w2 : b.2.2 ≤ 399 := by omega
      simp [okArr, (sOk _ q3).2.2.1, isWithin, q1, q4, w1, w2]
    · obtain ⟨q1, q2, q3, q4, q5⟩ := pok.ar b hb
      exact ⟨by rw [(sOk _ q3).2.1]; decide, (sOk _ q3).1⟩
    · obtain ⟨q1, q2⟩ := pok.st z hz
      omega
    have g6' := make_gr g05.fh hx hdx nex g6 fx6
    generalize upd F6 x ((H6 x).getD (.own 0)) = F6' at g6' hsp
    have ha6 := g6'.at ha5
    have fa6 := g6'.ff _ _ fa5
    have tl6 := tl5.ex g6'.ff
    have dA6 := dA5.ex g6'.ff
    have dS6 := dS5.ex g6'.ff
    have hp6 := hp5.gr g6' (by simp)
    have g06 := g05.trans g6'
    clear g6 fx6 hx hdx nex g6' ha5 fa5 tl5 dA5 dS5 hp5 g05
    -- the wall
    refine ⟨_, rfl, fun x2 dx2 hx2 hdx2 nex2 => ?_⟩
    refine ⟨F6', x2, dx2, a2, kvs2, ks2, m2, .list, rfl, upd_same, g06.fh.dm hx2, make_sees g06.fh hx2 hdx2 nex2, fa6, by rw [upd_ne (ne_of_none ha6 hx2), upd_ne (ne_of_none ha6 hdx2)]; exact ha6, tl6, fun l => .inl rfl, fun e => by rw [e] at kl; simp at kl; omega, by omega, pk.nodup_iff.mpr snd, fun z hz => ⟨by rw [(sOk z (pk.mem_iff.mp hz)).2.1]; decide, (sOk z (pk.mem_iff.mp hz)).2.2.1⟩, fun z hz => ?_, fun wd' F7 H7 wk wm g7 fx7 hwa => ⟨rfl, ?_⟩⟩
    · obtain ⟨m1, m6, mnd, mz⟩ := okm z hz
      refine ⟨m1, m6, fun y hy => ?_, mnd⟩
      rcases mz y hy with rfl | e
      · decide +kernel
      · unfold pool at e
        rw [if_pos rfl] at e
        rcases List.mem_append.mp e with e | e
        · exact ⟨by rw [(sOk y (pk.mem_iff.mp e)).2.1]; decide, (sOk y (pk.mem_iff.mp e)).2.2.2⟩
        · exact extra_ok y e
    have g7' := make_gr g06.fh hx2 hdx2 nex2 g7 fx7
    generalize upd F7 x2 ((H7 x2).getD (.own 0)) = F7' at g7' hwa
    have ha7 := g7'.at ha6
    have fa7 := g7'.ff _ _ fa6
    have tl7 := tl6.ex g7'.ff
    have dA7 := dA6.ex g7'.ff
    have dS7 := dS6.ex g7'.ff
    have hp7 := hp6.gr g7' (by simp)
    have hsp7 := hsp.ex' g7'.ff
    have g07 := g06.trans g7'
    clear g7 fx7 hx2 hdx2 nex2 g7' ha6 fa6 tl6 dA6 dS6 hp6 hsp g06
    -- all marks
    refine ⟨_, rfl, _, rfl, F7', va, a2, kvs2, ks2, m2, rfl, g07.fh, fa7, ha7, tl7, by omega, fun k hk => ⟨(okm k hk).2.1, (okm k hk).2.2.1⟩, fun r8 es F8 H8 en em dE g8 => ⟨_, _, _, rfl, ?_⟩⟩
    have w5 : W5 (many : Int) ks2 AA S m2 s' wd' es := ⟨m4, by omega, lA, fun b hb => by
      obtain ⟨q1, q2, q3, q4, q5⟩ := pok.ar b hb
      exact ⟨q1, q2, pk.mem_iff.mpr q3, q4, q5⟩, pok.srt, pok.st, pok.ne, okm, hsp7.ok, hwa.ok, sA, sS, wk, wm, en, em⟩
    have ha8 := g8.at ha7
    have fa8 := g8.ff _ _ fa7
    have tl8 := tl7.ex g8.ff
    have dA8 := dA7.ex g8.ff
    have dS8 := dS7.ex g8.ff
    have hp8 := hp7.gr g8 (by simp)
    have hsp8 := hsp7.ex' g8.ff
    have hwa8 := hwa.ex' g8.ff
    have g08 := g07.trans g8
    clear g8 ha7 fa7 tl7 dA7 dS7 hp7 hsp7 hwa g07
    -- listed
    refine ⟨_, rfl, _, rfl, _, rfl, _, rfl, _, _, rfl, rfl, .inl ⟨by decide, by decide⟩, ?_⟩
    refine ⟨F8, va, vst, a2, kvs2, ks2, m2, AA, S, 3 * many, by rw [show ((3 * many : Nat) : Int) = 3 * (many : Int) from by omega]; rfl, g08.fh, dA8, dS8, fa8, tl8, fun b hb => pk.mem_iff.mpr (pok.ar b hb).2.2.1, by omega, by omega, fun k hk => (okm k hk).2.1, by omega, fun D kvs9 mm F9 H9 fD hD9 mq mok g9 => ?_⟩
    have dE9 := dE.ex g9.ff
    have hp9 := hp8.gr g9 (by simp)
    have hsp9 := hsp8.ex' g9.ff
    have hwa9 := hwa8.ex' g9.ff
    have g09 := g08.trans g9
    have e7 := w5.e7
    clear ha8 fa8 tl8 dA8 dS8 hp8 hsp8 hwa8 g08 dE
    -- rows
    refine ⟨Nat.zero_le _, fun c0 hc0 => ⟨by show 1 ≤ sizeLine; omega, fun L0 hL0 => ?_⟩⟩
    have gA := ((Gr.refl (B := []) g09.fh).new (o := .tup []) hc0).new (o := .lst [.ref c0]) hL0
    have fL0 : upd (upd F9 c0 (.tup [])) L0 (.lst [.ref c0]) L0 = some (.lst [.ref c0]) := upd_same
    have rr0 : RowsR (upd (upd F9 c0 (.tup [])) L0 (.lst [.ref c0])) [.ref c0] (rowsT es 0) := by
      refine .cons ⟨c0, rfl, ?_⟩ .nil
      rw [upd_ne (ne_of_none (upd_same : upd H9 c0 (.tup []) c0 = _) hL0)]
      exact upd_same
    generalize upd (upd H9 c0 (.tup [])) L0 (.lst [.ref c0]) = H10 at gA ⊢
    generalize upd (upd F9 c0 (.tup [])) L0 (.lst [.ref c0]) = F10 at gA fL0 rr0
    refine ⟨2, rfl, by decide, by decide, ?_⟩
    refine for_it walk_range (fun i σ' H' => ∃ (o10 o11 o12 : Option V) (F' : Hp) (L : Addr) (vs : List V), σ' = [some (.ref p), some (.int many), some va, some vst, some (.ref a2), some (.ref x), some (.ref x2), some r8, some (.ref D), some (.ref L), o10, o11, o12] ∧ Gr [] F9 H9 F' H' ∧ F' L = some (.lst vs) ∧ RowsR F' vs (rowsT es i))
      ⟨none, none, none, F10, L0, _, rfl, gA, fL0, rr0⟩ (fun _ _ _ _ _ => True.intro) ?_ ?_
    · rintro i y σ' H' H'' hi ⟨o10, o11, o12, F', L, vs, rfl, g, fL, rr⟩ ⟨rfl, rfl⟩
      have hi2 : i < 2 := hi
      rw [rowsT_lt hi2] at rr
      refine ⟨_, rfl, seq_walk (dE9.ex g.ff) (.inl rfl) g.fh fun J xs1 G w1 hG hxs hlen => ?_⟩
      rw [hlen, List.length_map] at w1
      refine for_it w1 (fun j σ' H' => ∃ (o11 o12 : Option V) (F2 : Hp) (L : Addr) (vs : List V), σ' = [some (.ref p), some (.int many), some va, some vst, some (.ref a2), some (.ref x), some (.ref x2), some r8, some (.ref D), some (.ref L), some (.int (0 + (i : Int))), o11, o12] ∧ Gr [] F' H'' F2 H' ∧ F2 L = some (.lst vs) ∧ RowsR F2 vs (rowsX es i j))
        ⟨o11, o12, F', L, vs, rfl, Gr.refl g.fh, fL, rr⟩ (fun j σ' H' _ ⟨_, _, F2, _, _, _, g, _⟩ => hG H' (sees_gr g)) ?_ ?_
      · rintro j y σ' H2 H3 hj ⟨o11, o12, F2, L, vs, rfl, g2, fL, rr⟩ ⟨rfl, hyj⟩
        obtain ⟨d, k1, k2⟩ := hxs.get hyj
        rw [List.getElem?_map] at k1
        obtain ⟨mk, hmk, rfl⟩ := Option.map_eq_some_iff.mp k1
        rw [dp_str] at k2
        subst k2
        dsimp only [List.set_cons_zero, List.set_cons_succ]
        have lX := Paired.length rr
        have lX57 := rowsX_len e7 i j
        refine ⟨_, rfl, _, rfl, .mk ⟨L, vs, rfl, .inl (.inl (.inl (sees_lst g2.fh fL))), fun l hl => ?_⟩⟩
        have gl := (Gr.refl (B := []) g2.fh).new (o := .lst vs) hl
        have fl : upd F2 l (.lst vs) l = some (.lst vs) := upd_same
        have hLl := gl.at (sees_lst g2.fh fL)
        have rrl := rr.ex gl.ff
        generalize upd H3 l (.lst vs) = H4 at gl hLl ⊢
        generalize upd F2 l (.lst vs) = F4 at gl fl rrl
        refine seq_lst fl gl.fh fun D1 hD1 => ?_
        refine lc_st (B := []) walk_list gl.fh (fun _ h => absurd h (by simp)) (fun n acc F' H' => RowsR F' acc ((((rowsX es i j).take n).filter fun r => decide (r.length = i)).map (· ++ [mk]))) (fun _ _ _ _ _ _ h _ => h) (fun n acc F' H' _ gr _ => .inl (.inl (sees_lst gr.fh (gr.ff _ _ fl)))) .nil (by omega) (fun n acc x' F' H' H'' hn hla gr pv y => ?_) hD1 fun acc F5 H5 g5 fD1 hD1c pv => ?_
        · obtain ⟨rfl, hyn⟩ := y
          obtain ⟨row, hrow, c, rfl, fc⟩ := paired_at rrl hyn
          have fc' := gr.ff _ _ fc
          have rk := rowsX_ok (List.mem_of_getElem? hrow)
          have tk : (rowsX es i j).take (n + 1) = (rowsX es i j).take n ++ [row] := by rw [List.take_add_one, hrow]; rfl
          refine ⟨F', Gr.refl gr.fh, decide (row.length = i), fun Yes No h0 h1 => ⟨rfl, ⟨_, rfl, len_dp (.tup (.inl (.inl fc')) (dps_str.mpr rfl)) (.inr rfl) gr.fh ⟨_, rfl, rfl, _, rfl, ?_⟩⟩⟩⟩
          by_cases cl : row.length = i
          · refine iteYes (by rw [List.length_map, cl]; simp) ?_
            refine ⟨_, rfl, _, rfl, by show 1 ≤ sizeLine; omega, fun t ht => ?_⟩
            have gt := (Gr.refl (B := []) gr.fh).new (o := .tup [.str mk]) ht
            refine cat_rows (row := row) (e := [mk]) gt.fh (gt.ff _ _ fc') upd_same (by have := rk.1; simp; omega) fun r F14 H14 g14 hr' => h1 (decide_eq_true cl) _ _ _ (gt.trans g14) ?_
            rw [tk, List.filter_append, List.map_append]
            refine (pv.ex (gt.trans g14).ff).append ?_
            rw [show [row].filter (fun r => decide (r.length = i)) = [row] by simp [cl]]
            exact .cons ⟨r, rfl, hr'⟩ .nil
          · refine iteNo (by rw [List.length_map]; simp; omega) (h0 (decide_eq_false cl) _ _ (Gr.refl gr.fh) ?_)
            rw [tk, List.filter_append, List.map_append, show [row].filter (fun r => decide (r.length = i)) = [] by simp [cl]]
            simpa using pv
        · rw [lX, List.take_length] at pv
          have la := Paired.length pv
          rw [List.length_map] at la
          have lf := List.length_filter_le (fun r : List Str => decide (r.length = i)) (rowsX es i j)
          refine ⟨L, D1, vs, acc, rfl, rfl, g5.at hLl, hD1c, by omega, fun N hN => ?_⟩
          have gN := (gl.trans g5).new (o := .lst (vs ++ acc)) hN
          have eN := Ex.new (o := HO.lst (vs ++ acc)) (g5.fh.dm hN)
          refine ⟨_, _, _, N, _, rfl, g2.trans gN, upd_same, ?_⟩
          rw [← rowsX_step hi2 hmk]
          exact ((rrl.ex g5.ff).append pv).ex eN
      · rintro σ' H2 ⟨o11, o12, F2, L, vs, rfl, g2, fL, rr⟩
        exact ⟨_, _, _, F2, L, vs, rfl, g.trans g2, fL, by rw [rowsT_succ]; exact rr⟩
    · rintro σ' H11 ⟨o10, o11, o12, F11, L, vs, rfl, g11, fL, rr⟩
      clear rr0 fL0 gA
      have rr : RowsR F11 vs (rowsX es 1 es.length) := rr
      have l57 := rowsX_len e7 1 es.length
      have lvs := Paired.length rr
      obtain ⟨ks, ek1, ek2, ek3⟩ := RowsR.keys rr
      have lks : ks.length ≤ 57 := by
        have z := congrArg List.length ek2
        rw [List.length_map, List.length_map] at z
        omega
      have krow : ∀ p ∈ ks, ∃ row, RowOk es row ∧ p.2 = kS row := fun p mp => by
        have z : p.2 ∈ (rowsX es 1 es.length).map kS := by rw [← ek2]; exact List.mem_map.mpr ⟨p, mp, rfl⟩
        obtain ⟨row, mr, e⟩ := List.mem_map.mp z
        exact ⟨row, rowsX_ok mr, e.symm⟩
      subst ek1
      refine ⟨_, rfl, L, ks, rfl, .inl (.inl (sees_lst g11.fh fL)), fun p mp => .inl (.inl (sees_tup g11.fh (ek3 p mp))), by omega, fun q1 Ls hq1 sub all_ nd le => ?_⟩
      have gB := g11.newM (o := SetUO P w q1 Ls) hq1
      refine ⟨q1, Ls, rfl, upd_same, fun p mp => .inl (.inl (sees_tup gB.fh (ek3 p (sub p mp)))), fun p mp p' mp' => ?_, fun L1 p4 perm hp4 => ?_⟩
      · obtain ⟨r1, _, e1⟩ := krow p (sub p mp)
        obtain ⟨r2, _, e2⟩ := krow p' (sub p' mp')
        rw [e1, e2]
        show PySem.W.alike (.tuple _) (.tuple _) = true
        simp only [PySem.W.alike]
        exact alike_kS r1 r2
      have gC := gB.new (o := .lst ((L1.mergeSort (PySem.W.dataLe false fun p => encT p.2)).map fun q => V.ref q.1)) hp4
      have fp4 : upd F11 p4 (.lst ((L1.mergeSort (PySem.W.dataLe false fun p => encT p.2)).map fun q => V.ref q.1)) p4 = some (.lst ((L1.mergeSort (PySem.W.dataLe false fun p => encT p.2)).map fun q => V.ref q.1)) := upd_same
      have perm2 : (L1.mergeSort (PySem.W.dataLe false fun p => encT p.2)).Perm Ls := (List.mergeSort_perm _ _).trans perm
      have ek4 : ∀ p ∈ L1.mergeSort (PySem.W.dataLe false fun p => encT p.2), ∃ row, RowOk es row ∧ (upd F11 p4 (.lst ((L1.mergeSort (PySem.W.dataLe false fun p => encT p.2)).map fun q => V.ref q.1))) p.1 = some (.tup (row.map V.str)) := fun p mp => by
        have mk := sub p (perm2.mem_iff.mp mp)
        obtain ⟨row, ok, e⟩ := krow p mk
        refine ⟨row, ok, ?_⟩
        have z := ek3 p mk
        rw [e, kS_V] at z
        exact Ex.new (gB.fh.dm hp4) _ _ z
      generalize (L1.mergeSort (PySem.W.dataLe false fun p => encT p.2)) = Lf at gC fp4 perm2 ek4 ⊢
      generalize upd (upd H11 q1 (SetUO P w q1 Ls)) p4 (.lst (Lf.map fun q => V.ref q.1)) = H12 at gC ⊢
      generalize upd F11 p4 (.lst (Lf.map fun q => V.ref q.1)) = F12 at gC fp4 ek4
      clear gB hq1 hp4 perm
      refine seq_lst fp4 gC.fh ?_
      refine for_it walk_list (fun i σ' H' => ∃ (o12 : Option V) (F' : Hp), σ' = [some (.ref p), some (.int many), some va, some vst, some (.ref a2), some (.ref x), some (.ref x2), some r8, some (.ref D), some (.ref L), o10, o11, o12] ∧ Gr [] F12 H12 F' H')
        ⟨o12, F12, rfl, Gr.refl gC.fh⟩ (fun i σ' H' _ ⟨_, _, _, g⟩ => .inl (.inl (sees_lst g.fh (g.ff _ _ fp4)))) ?_ ?_
      · rintro i y σ' H' H13 hi ⟨o12, F13, rfl, g13⟩ ⟨rfl, hyi⟩
        rw [List.getElem?_map] at hyi
        obtain ⟨pr, hpr, rfl⟩ := Option.map_eq_some_iff.mp hyi
        obtain ⟨row, rok, fr⟩ := ek4 pr (List.mem_of_getElem? hpr)
        have fr' := g13.ff _ _ fr
        have ex13 : Ex F9 F13 := gC.ff.trans g13.ff
        have g913 := gC.trans g13
        have hD13 := g913.at hD9
        refine ⟨_, rfl, len_dp (.tup (.inl (.inl fr')) (dps_str.mpr rfl)) (.inr rfl) g13.fh ⟨_, _, rfl, rfl, _, rfl, iteYes (decide_eq_true (by rw [List.length_map]; have := rok.1; omega)) ?_⟩⟩
        refine ⟨_, rfl, _, rfl, _, rfl, list_dp (.tup (.inl (.inl fr')) (dps_str.mpr rfl)) (.inr rfl) g13.fh fun p5 ys F14 H14 g14 hp5 fp5 hh5 hy5 => ?_⟩
        have gd := g14.done hp5 fp5 hh5
        have ed := gd.ff
        have dv : Dp K (upd F14 p5 (.lst ys)) (.ref p5) (.list (row.map .str)) := .lst (.inl (.inl upd_same)) (hy5.ex (Ex.new fp5))
        generalize upd F14 p5 (.lst ys) = F15 at gd ed dv
        refine known_at w5 gd.fh ((hsp9.ex' ex13).ex' ed) ((hwa9.ex' ex13).ex' ed) dv (.inl rfl) rok fun r16 ns16 F16 H16 g16 hr16 pw16 mem16 => ?_
        have g1316 := gd.trans g16
        have hc16 : H16 pr.1 = some (.tup ((kS row).map kV)) := by rw [kS_V]; exact sees_tup g16.fh (g1316.ff _ _ fr')
        refine ⟨_, rfl, D, rfl, .inr ⟨kvs9, .inl (g1316.at hD13)⟩, _, rfl, Nat.zero_le _, fun L5 hL5 => ?_⟩
        have g17 := (Gr.refl (B := []) g16.fh).new (o := .lst []) hL5
        have fL5 : upd F16 L5 (.lst []) L5 = some (.lst []) := upd_same
        generalize upd H16 L5 (.lst []) = H17 at g17 ⊢
        generalize upd F16 L5 (.lst []) = F17 at g17 fL5
        have g1317 := g1316.trans g17
        refine ⟨_, DGet.t (g1317.at hD13) (g17.at hc16), ?_⟩
        obtain ⟨L', eL', fL'⟩ := found_at (F := F17) (mq.up fun v b ⟨L, h1, h2⟩ => ⟨L, h1, g1317.ff _ _ (ex13 _ _ h2)⟩) fL5 row
        rw [eL']
        refine tuple_dp (.lst (.inl (.inl fL')) (dps_int.mpr rfl)) (.inl rfl) g17.fh fun r18 F18 H18 g18 hr18 => ?_
        have g1318 := g1317.trans g18
        refine ne_ints (Dp.sees g18.fh ((hr16.ex g17.ff).ex g18.ff)) (Dp.sees g18.fh hr18) ?_
        rw [decide_eq_true (asc_same pw16 (mok.srt row) fun z => (mem16 z).trans (w5.law rfl mok rok z).symm)]
        exact ⟨_, rfl, iteF ⟨_, F18, rfl, g13.trans g1318⟩⟩
      · rintro σ' H13 ⟨o12, F13, rfl, g13⟩
        have g913 := gC.trans g13
        have ex13 : Ex F9 F13 := g913.ff
        have hD13 := g913.at hD9
        have rok0 : RowOk es [] := ⟨Nat.zero_le _, fun _ z => nomatch z⟩
        have ne0 : look mm [] ≠ [] := by
          obtain ⟨z, hz⟩ := List.exists_mem_of_ne_nil _ w5.ne
          exact List.ne_nil_of_mem ((mok.mem [] z).mpr ⟨0, Nat.zero_le _, hz, rfl⟩)
        have half : ∀ {F14 H14 : Hp} {r14 : V} {ns14 : List Int} {Q' : VK}, Gr [] F13 H13 F14 H14 → Dp K F14 r14 (.tuple (ns14.map .int)) → ns14.Pairwise (· < ·) → (∀ z, z ∈ ns14 ↔ Goes (trip wd'.m s'.A) (ReachP (trip wd'.m s'.A) (· ∈ s'.S)) [] z) → (∀ F' H', Gr [] F13 H13 F' H' → Q' (.bl true) H') →
            (tCB (rTupD K) (tCons (tDGet (tVar 8) (tTup tNil)) tNil)) [some (.ref p), some (.int many), some va, some vst, some (.ref a2), some (.ref x), some (.ref x2), some r8, some (.ref D), some (.ref L), o10, o11, o12] H14 (fun y H2 => rEqDD K r14 y H2 Q') := fun {F14 H14 r14 ns14 Q'} g14 hr14 pw14 mem14 q' => by
          refine ⟨_, rfl, Nat.zero_le _, fun c hc => ?_⟩
          have g15 := (Gr.refl (B := []) g14.fh).new (o := .tup []) hc
          have hc15 : upd H14 c (.tup []) c = some (.tup ((kS []).map kV)) := upd_same
          generalize upd H14 c (.tup []) = H15 at g15 hc15 ⊢
          generalize upd F14 c (.tup []) = F15 at g15
          have g1315 := g14.trans g15
          obtain ⟨L', eL', fL'⟩ := found_in (F := F15) (mq.up fun v b ⟨L, h1, h2⟩ => ⟨L, h1, g1315.ff _ _ (ex13 _ _ h2)⟩) ne0
          refine ⟨D, .ref L', rfl, by rw [← eL']; exact DGet.t (g1315.at hD13) hc15, ?_⟩
          refine tuple_dp (.lst (.inl (.inl fL')) (dps_int.mpr rfl)) (.inl rfl) g15.fh fun r18 F18 H18 g18 hr18 => ?_
          refine eq_ints (Dp.sees g18.fh ((hr14.ex g15.ff).ex g18.ff)) (Dp.sees g18.fh hr18) ?_
          rw [decide_eq_true (asc_same pw14 (mok.srt []) fun z => (mem14 z).trans (w5.law rfl mok rok0 z).symm)]
          exact q' F18 H18 (g1315.trans g18)
        -- by names
        refine ⟨Nat.zero_le _, fun c hc => ⟨_, rfl, _, rfl, ?_⟩⟩
        have gc := (Gr.refl (B := []) g13.fh).new (o := .tup []) hc
        have dc : Dp K (upd F13 c (.tup [])) (.ref c) (.tuple (([] : List Str).map .str)) := .tup (.inl (.inl upd_same)) .nil
        generalize upd H13 c (.tup []) = H14 at gc ⊢
        generalize upd F13 c (.tup []) = F14 at gc dc
        refine known_at w5 gc.fh ((hsp9.ex' ex13).ex' gc.ff) ((hwa9.ex' ex13).ex' gc.ff) dc (.inr rfl) rok0 fun r16 ns16 F16 H16 g16 hr16 pw16 mem16 => ?_
        refine half (gc.trans g16) hr16 pw16 mem16 fun F17 H17 g17 => ⟨true, rfl, iteT ?_⟩
        refine ⟨_, rfl, _, rfl, ?_⟩
        have dE0 : Dp K F17 (.ref Ek) (.tuple (([] : List Str).map .str)) := .tup (kE F17) .nil
        refine known_at w5 g17.fh ((hsp9.ex' ex13).ex' g17.ff) ((hwa9.ex' ex13).ex' g17.ff) dE0 (.inr rfl) rok0 fun r18 ns18 F18 H18 g18 hr18 pw18 mem18 => ?_
        refine half (g17.trans g18) hr18 pw18 mem18 fun F19 H19 g19 => ?_
        have gall := g913.trans g19
        exact q F19 H19 t5 (g09.trans gall) (hp9.gr gall (by simp)) (by omega) (by omega)
end
end TW
set_option Elab.async false
set_option linter.all false
set_option maxRecDepth 100000
set_option maxHeartbeats 8000000
/-! k05: the law -/
namespace TW
open PySem PySem.Spec PyProof.Rows L2 RZ StX
open Evl (Ex)
def spLaw (K : PySem.W.Frag) : Sp := fun vs H Q _ => ∃ (a : Addr) (ns : List Int), vs = [.ref a] ∧ SqL K H a (ns.map V.int) ∧ ns.length ≤ 63 ∧ ∀ H', Q (.bl true) H'
/-- called by keywords alone, a def with defaults -/
theorem FunD.back {K : PySem.W.Frag} {x qual : Str} {params : Arguments} {body : List Stmt} {scope : Scope} {dvs : List V} {f : Addr} {fd : FuncData} {ps ks : List Str} (F : FunD K x qual params body scope dvs [] f fd) (hd : dvs ≠ [])
    (h : ∀ (T : Addr) (kV doc pm : Value) (an : Option Addr) (cdv ct : Value) (ws its : List Value), ws.length = ps.length → its.length = dvs.length →
      ∃ k, bindArgs (PySem.W.fnOf x qual params body scope (.ref T) kV doc pm an cdv ct) ⟨[], ks.zip ws⟩ = seqItems? (.ref T) >>= k ∧ k (some its.toArray) = pure (ps.zip ws.reverse)) (hps : ps ≠ []) : KBinds K fd ps ks TW.back TW.back := by
  obtain ⟨oc, od, dV, kV, doc, pm, an, cdv, ct, osl, rfl, lk, hcd, hD, hK⟩ := F.ex
  rcases hD with ⟨e, _⟩ | ⟨_, T, o, its, m, rfl, lT, oT, rT⟩
  · exact absurd e hd
  · refine ⟨fun s us ws X hl => ?_, fun {vs us zs ws} r1 r2 => ?_⟩
    · cases us with
      | nil =>
        obtain ⟨k, e1, e2⟩ := h T kV doc pm an cdv ct ws its (by rw [← hl]; exact (List.length_reverse).symm) rT.length.symm
        refine BindsTo.of_looks fun M => ?_
        rw [e1]
        exact looks_items X lT oT (.of_pure e2)
      | cons a b => exact absurd (List.length_eq_zero_iff.mp hl.symm) hps
    · cases r1 with
      | nil => exact Vals.rev r2
      | cons _ _ => exact .nil
section
variable {P : Program} {w : World} {K : PySem.W.Frag} {mg : Str → Option Value} {base : Heap}
theorem ok_law5 {f : Addr} {fd : FuncData} (F : Fun K "law" "law" s_law f fd) (T : Txt mg) (C__law_pen : Cal P w K mg base "_law_pen" 1 ["script"] [] (spPen K)) (C__law_one_right : Cal P w K mg base "_law_one_right" 6 ["pen"] [] (spOne5 K)) :
    FnOk P w K mg base CX0 7 f fd ["script"] (spLaw K) := by
  refine F.ok sc_law (fun vs H Q E h => ?_) (fun cdv A outer s H vs Q E hr h => ?_)
  · obtain ⟨a, ns, rfl, _⟩ := h
    rfl
  · obtain ⟨a, ns, rfl, hS, _, q⟩ := h
    have lz : 100000 < sizeLine := by rw [sizeLine_eq]; decide
    refine ⟨_, (pss_cons (zs (i := 1) sc_law.nd (pe_cal C__law_pen (hr.mono (by decide)) (pa_cons (pv 0) pa_nil)))
      (pss_cons (ps_for PassesOwn.never rfl (pi_range1 rfl T.range (pa_cons pe_int pa_nil)) (zg (i := 2) sc_law.nd)
        (pss_one (ps_if (pt_not (pt_val (pe_cal C__law_one_right (hr.mono (by decide)) (pa_cons (pv 1) pa_nil))))
          (pss_one (ps_ret pe_bl))
          pss_nil)))
      (pss_one (ps_ret pe_bl)))), ?_⟩
    refine ⟨_, rfl, H, .ref a, ns, rfl, ex_sees (Ex.refl H), .lst hS (dps_int.mpr rfl), fun p F1 H1 np g1 hp1 => ?_⟩
    refine ⟨4, rfl, by decide, by decide, ?_⟩
    refine for_it walk_range (fun i σ' H' => ∃ (o2 : Option V) (F' : Hp) (t' : Int), σ' = [some (.ref a), some (.ref p), o2] ∧ Sees F' H' ∧ PenAt K F' H' p t' ∧ 0 ≤ t' ∧ t' ≤ 1000 * i)
      ⟨none, F1, 0, rfl, g1.fh, hp1, Int.le_refl _, by omega⟩ (fun _ _ _ _ _ => True.intro) ?_ ?_
    · rintro i y σ' H' H'' hi ⟨o2, F', t', rfl, fh, hp', u1, u2⟩ ⟨rfl, rfl⟩
      have hi' : i < 4 := hi
      refine ⟨_, rfl, F', p, t', rfl, fh, hp', by omega, fun F2 H2 t2 g2 hp2 v1 v2 => ?_⟩
      refine ⟨_, rfl, iteF ?_⟩
      exact ⟨_, F2, t2, rfl, g2.fh, hp2, by omega, by omega⟩
    · rintro σ' H' ⟨o2, F', t', rfl, fh, hp', u1, u2⟩
      exact q H'
end
end TW
set_option Elab.async false
set_option linter.all false
set_option maxRecDepth 100000
set_option maxHeartbeats 4000000
/-! the head of a law, for promises of TW (guards known) -/
namespace TW
open PySem PySem.Spec PyProof.Rows L2
/-- the law called, behind the top -/
theorem head_call {P : Program} {w : World} {K : PySem.W.Frag} {mg mb : Str → Option Value} {k : Nat} {fa a : Addr} {fd : FuncData} {x : Str} {sp : Sp} {s1 : Shared} {vs : List Value} {ns : List Int}
    (inK : K.In s1.heap) (nsM : s1.heap.Ns mainGlobals mg) (nsB : s1.heap.Ns builtinsNs mb) (bts : ∀ y : Str, y ≠ "__name__" → mb y = bootBuiltins y) (lim : s1.heap.NoLimit) (gens : s1.gens = #[])
    (obj : s1.heap.get? a = some { cls := .type "list", data := .seq vs.toArray }) (are : IntsAre vs ns) (len : ns.length ≤ sizeLine) (room : Room k callerA)
    (ok : ∀ b : Heap, K.In b → b.Ns mainGlobals mg → FnOk P w K mg b CX0 k fa fd [x] sp) (bind : ∀ (s : Shared) (u : Value), BindsTo s fd ⟨[u], []⟩ [(x, u)])
    (hsp : ∀ G : Hp, Only G → SqL K G a (ns.map V.int) → sp [.ref a] G (fun v _ => v = .bl true) fun _ _ _ => False) :
    codeAny (model P w) callerA (.call (.ref fa) ⟨[.ref a], []⟩) (fun r t => r = .ok (.ret (.bool true)) ∧ OldK s1.heap t.heap ∧ t.os = s1.os ∧ AllBare t.gens) s1 := by
  have rel := vals_ints are
  have lv := are.length
  suffices main : ∀ G : Hp, Only G → SqL K G a (ns.map V.int) → HOk P w G s1.heap → (∀ c, G c ≠ none → c = a ∧ K.lookup a = none) →
      codeAny (model P w) callerA (.call (.ref fa) ⟨[.ref a], []⟩) (fun r t => r = .ok (.ret (.bool true)) ∧ OldK s1.heap t.heap ∧ t.os = s1.os ∧ AllBare t.gens) s1 by
    cases lk : K.lookup a with
    | some o =>
      have there := inK a o lk
      rw [obj] at there
      cases there
      exact main (fun _ => none) (fun _ => .inl rfl) (.inr ⟨_, vs.toArray, _, lk, rfl, rfl, rfl, by rw [List.size_toArray, lv]; exact len, by simpa using rel⟩)
        (fun c u z => nomatch (show (none : Option HO) = some u from z)) fun c z => absurd rfl z
    | none =>
      refine main (fun c => if c = a then some (.frz { cls := .type "list", data := .seq vs.toArray } (.lst (ns.map V.int))) else none)
        (fun c => (Decidable.em (c = a)).elim (fun e => .inr ⟨_, _, if_pos e⟩) fun e => .inl (if_neg e)) (.inl (.inr ⟨{ cls := .type "list", data := .seq vs.toArray }, if_pos rfl⟩)) (fun c u z => ?_) fun c z => ⟨?_, lk⟩
      · by_cases e : c = a
        · have z := (if_pos e).symm.trans z
          cases z
          subst e
          exact ⟨obj, by rw [List.length_map]; exact len, vs, _, rel, obj⟩
        · have z := (if_neg e).symm.trans z
          cases z
      · by_cases e : c = a
        · exact e
        · exact absurd (if_neg e) z
  intro G only sq hok own
  have notA : ∀ {c : Addr}, c ≠ a → G c = none := fun {c} ne => Decidable.byContradiction fun h => ne (own c h).1
  have hid : ∀ {c : Addr} {o : Obj}, s1.heap.get? c = some o → c ≠ a → (hidT s1.heap G).get? c = some o := fun e ne => hidT_get e (notA ne)
  have dictNe : ∀ {c : Addr} {o : Obj} {es : Array DictEntry} {ep : Nat}, s1.heap.get? c = some o → o.data = .dict es ep → c ≠ a := by
    intro c o es ep e dd z
    rw [z, obj] at e
    cases e
    exact nomatch (show Data.seq vs.toArray _ = Data.dict es ep from dd)
  have nsH : ∀ {c : Addr} {m : Str → Option Value}, s1.heap.Ns c m → (hidT s1.heap G).Ns c m := by
    rintro c m ⟨o, es, ep, e, dd, r⟩
    exact ⟨o, es, ep, hid e (dictNe e dd), dd, r⟩
  have inH : K.In (hidT s1.heap G) := by
    intro c o e
    refine hidT_get (inK c o e) (Decidable.byContradiction fun h => ?_)
    obtain ⟨z, nl⟩ := own c h
    rw [z, nl] at e
    cases e
  have limH : (hidT s1.heap G).NoLimit := by
    obtain ⟨mc, l1, l2⟩ := lim
    exact ⟨mc, nsH l1, l2⟩
  have modH : Mod K mg (hidT s1.heap G) := ⟨inH, nsH nsM, ⟨mb, nsH nsB, bts⟩, limH⟩
  have env : Env0 P w K mg (hidT s1.heap G) callerA [] s1 G :=
    ⟨rfl, modH, fun c o e => of_hidT e, Nat.le_of_eq (hidT_size _ _), trivial, fun c hc => absurd (show c ∈ ([] : List Addr) from hc) (by simp), hok, .of_eq gens⟩
  have run := (ok _ inH (nsH nsM)).go callerA [] s1 G ⟨[.ref a], []⟩ [.ref a] [.ref a] _ _ room env (bind s1 (.ref a)) (.cons rfl .nil) (hsp G only sq)
  refine codeAny_mono run ?_
  rintro (e | fl) t h
  · exact (h : False).elim
  match fl, h with
  | .next, h => exact (h : False).elim
  | .brk, h => exact (h : False).elim
  | .cont, h => exact (h : False).elim
  | .ret u, h =>
    obtain ⟨v, G', os, bare, un, hok', ru, q⟩ := h
    obtain rfl : v = .bl true := q
    obtain rfl : u = Value.bool true := ru
    refine ⟨rfl, OldK.of_keep fun c o e => ?_, os, bare⟩
    cases hc : G c with
    | none => exact un.keep c o e hc (fun z => absurd (show c ∈ ([] : List Addr) from z) (by simp)) (by simp)
    | some u =>
      obtain ⟨ob, xs, z⟩ := (only c).resolve_left fun z => by
        rw [hc] at z
        cases z
      obtain ⟨e1, _⟩ := hok c _ z
      obtain ⟨e2, _⟩ := hok' c _ (un.frzs c ob _ z)
      rw [e] at e1
      cases e1
      exact e2
/-- what the head wants, from the law's promise -/
theorem head_of {l : PySem.W.OpenLaw} {n k : Nat} {q : Program} {loose : List Str} {XP : (Str → Option Value) → Heap → Prop} {YP : World → Heap → Prop} {d : DefRec} {K : Params → PySem.W.Frag} {sp : World → Sp} {x : Str}
    (most : l.most = some n) (n2 : n ≤ sizeLine) (dft : d.params.defaults = []) (room : Room k callerA)
    (inK : ∀ (w : World) (h : Heap), YP w h → (K w.params).In h)
    (ok : ∀ (w : World) (mg : Str → Option Value) (fa : Addr) (h : Heap), (K w.params).In h → h.Ns mainGlobals mg → mg d.name = some (.ref fa) → ∃ fd : FuncData, (∀ (s : Shared) (u : Value), BindsTo s fd ⟨[u], []⟩ [(x, u)]) ∧
      ∀ b : Heap, (K w.params).In b → b.Ns mainGlobals mg → FnOk l.prog w (K w.params) mg b CX0 k fa fd [x] (sp w))
    (hsp : ∀ (w : World) (G : Hp) (a : Addr) (ns : List Int), ns.length ≤ n → Only G → SqL (K w.params) G a (ns.map V.int) → sp w [.ref a] G (fun v _ => v = .bl true) fun _ _ _ => False) :
    PySem.W.WalkO q loose XP YP l.row.toRowW d [] (fun f vs => PySem.call f vs) := by
  refine Att.attach_call most dft fun w s0 s1 mg mb fa o pm cd doc a vs ns T Y ho hd hcd hmg hobj hints hlen hg => ?_
  have kin := inK w _ Y
  obtain ⟨fd, hb, hF⟩ := ok w mg fa _ kin T.T.g hmg
  exact head_call kin T.T.g T.T.b T.T.builtins T.T.nolimit hg hobj hints (Nat.le_trans hlen n2) room hF hb fun G hO hS => hsp w G a ns hlen hO hS
end TW
set_option Elab.async false
set_option maxRecDepth 100000
set_option maxHeartbeats 8000000
/-! what the top has left, and the law's own head -/
namespace TW
open PySem PySem.Spec PyProof.Rows L2
theorem all_mk {l : PySem.W.OpenLaw} {w : World} {K : PySem.W.Frag} {h : Heap} {mg : Str → Option Value} {fa : Addr} (X : K.In h) (G : h.Ns mainGlobals mg) (hfa : mg "law" = some (.ref fa))
    {CS : Addr} {CW : Addr} {CH : Addr} {f_is_integer : Addr} {od_is_integer an_is_integer : Option Addr} {sl_is_integer : Array (Option Value)} {oc_is_integer kV_is_integer dc_is_integer pm_is_integer cd_is_integer ct_is_integer : Value} {f_is_within : Addr} {od_is_within an_is_within : Option Addr} {sl_is_within : Array (Option Value)} {oc_is_within kV_is_within dc_is_within pm_is_within cd_is_within ct_is_within : Value} {f_is_listed : Addr} {od_is_listed an_is_listed : Option Addr} {sl_is_listed : Array (Option Value)} {oc_is_listed kV_is_listed dc_is_listed pm_is_listed cd_is_listed ct_is_listed : Value} {f_is_sound : Addr} {od_is_sound an_is_sound : Option Addr} {sl_is_sound : Array (Option Value)} {oc_is_sound kV_is_sound dc_is_sound pm_is_sound cd_is_sound ct_is_sound : Value} {f_ascends : Addr} {od_ascends an_ascends : Option Addr} {sl_ascends : Array (Option Value)} {oc_ascends kV_ascends dc_ascends pm_ascends cd_ascends ct_ascends : Value} {f_is_mark : Addr} {od_is_mark an_is_mark : Option Addr} {sl_is_mark : Array (Option Value)} {oc_is_mark kV_is_mark dc_is_mark pm_is_mark cd_is_mark ct_is_mark : Value} {f_is_heard : Addr} {od_is_heard an_is_heard : Option Addr} {sl_is_heard : Array (Option Value)} {oc_is_heard kV_is_heard dc_is_heard pm_is_heard cd_is_heard ct_is_heard : Value} {f_is_lot : Addr} {od_is_lot an_is_lot : Option Addr} {sl_is_lot : Array (Option Value)} {oc_is_lot kV_is_lot dc_is_lot pm_is_lot cd_is_lot ct_is_lot : Value} {f_is_arrow : Addr} {od_is_arrow an_is_arrow : Option Addr} {sl_is_arrow : Array (Option Value)} {oc_is_arrow kV_is_arrow dc_is_arrow pm_is_arrow cd_is_arrow ct_is_arrow : Value} {f_Speech___init__ : Addr} {od_Speech___init__ an_Speech___init__ : Option Addr} {sl_Speech___init__ : Array (Option Value)} {oc_Speech___init__ kV_Speech___init__ dc_Speech___init__ pm_Speech___init__ cd_Speech___init__ ct_Speech___init__ : Value} {f_are_marks : Addr} {od_are_marks an_are_marks : Option Addr} {sl_are_marks : Array (Option Value)} {oc_are_marks kV_are_marks dc_are_marks pm_are_marks cd_are_marks ct_are_marks : Value} {f_Wall___init__ : Addr} {od_Wall___init__ an_Wall___init__ : Option Addr} {sl_Wall___init__ : Array (Option Value)} {oc_Wall___init__ kV_Wall___init__ dc_Wall___init__ pm_Wall___init__ cd_Wall___init__ ct_Wall___init__ : Value} {f_need_speech : Addr} {od_need_speech an_need_speech : Option Addr} {sl_need_speech : Array (Option Value)} {oc_need_speech kV_need_speech dc_need_speech pm_need_speech cd_need_speech ct_need_speech : Value} {T_need_speech : Addr} {tc_need_speech : Value} {td_need_speech : Option Addr} {tn_need_speech : Nat} {ts_need_speech : Array (Option Value)} {uT_need_speech : Tok} {f_need_wall : Addr} {od_need_wall an_need_wall : Option Addr} {sl_need_wall : Array (Option Value)} {oc_need_wall kV_need_wall dc_need_wall pm_need_wall cd_need_wall ct_need_wall : Value} {f_Hearing___init__ : Addr} {od_Hearing___init__ an_Hearing___init__ : Option Addr} {sl_Hearing___init__ : Array (Option Value)} {oc_Hearing___init__ kV_Hearing___init__ dc_Hearing___init__ pm_Hearing___init__ cd_Hearing___init__ ct_Hearing___init__ : Value} {f_Hearing_closed : Addr} {od_Hearing_closed an_Hearing_closed : Option Addr} {sl_Hearing_closed : Array (Option Value)} {oc_Hearing_closed kV_Hearing_closed dc_Hearing_closed pm_Hearing_closed cd_Hearing_closed ct_Hearing_closed : Value} {f_Hearing_begun : Addr} {od_Hearing_begun an_Hearing_begun : Option Addr} {sl_Hearing_begun : Array (Option Value)} {oc_Hearing_begun kV_Hearing_begun dc_Hearing_begun pm_Hearing_begun cd_Hearing_begun ct_Hearing_begun : Value} {f_Hearing_behind : Addr} {od_Hearing_behind an_Hearing_behind : Option Addr} {sl_Hearing_behind : Array (Option Value)} {oc_Hearing_behind kV_Hearing_behind dc_Hearing_behind pm_Hearing_behind cd_Hearing_behind ct_Hearing_behind : Value} {f_need_hearing : Addr} {od_need_hearing an_need_hearing : Option Addr} {sl_need_hearing : Array (Option Value)} {oc_need_hearing kV_need_hearing dc_need_hearing pm_need_hearing cd_need_hearing ct_need_hearing : Value} {f_need_row : Addr} {od_need_row an_need_row : Option Addr} {sl_need_row : Array (Option Value)} {oc_need_row kV_need_row dc_need_row pm_need_row cd_need_row ct_need_row : Value} {f_known : Addr} {od_known an_known : Option Addr} {sl_known : Array (Option Value)} {oc_known kV_known dc_known pm_known cd_known ct_known : Value} {T_known : Addr} {tc_known : Value} {td_known : Option Addr} {tn_known : Nat} {ts_known : Array (Option Value)} {E_known : Addr} {f__law_pen : Addr} {od__law_pen an__law_pen : Option Addr} {sl__law_pen : Array (Option Value)} {oc__law_pen kV__law_pen dc__law_pen pm__law_pen cd__law_pen ct__law_pen : Value} {f__law_draw : Addr} {od__law_draw an__law_draw : Option Addr} {sl__law_draw : Array (Option Value)} {oc__law_draw kV__law_draw dc__law_draw pm__law_draw cd__law_draw ct__law_draw : Value} {f__law_pick : Addr} {od__law_pick an__law_pick : Option Addr} {sl__law_pick : Array (Option Value)} {oc__law_pick kV__law_pick dc__law_pick pm__law_pick cd__law_pick ct__law_pick : Value} {f__law_shuffled : Addr} {od__law_shuffled an__law_shuffled : Option Addr} {sl__law_shuffled : Array (Option Value)} {oc__law_shuffled kV__law_shuffled dc__law_shuffled pm__law_shuffled cd__law_shuffled ct__law_shuffled : Value} {f__law_arrows : Addr} {od__law_arrows an__law_arrows : Option Addr} {sl__law_arrows : Array (Option Value)} {oc__law_arrows kV__law_arrows dc__law_arrows pm__law_arrows cd__law_arrows ct__law_arrows : Value} {f__law_marks : Addr} {od__law_marks an__law_marks : Option Addr} {sl__law_marks : Array (Option Value)} {oc__law_marks kV__law_marks dc__law_marks pm__law_marks cd__law_marks ct__law_marks : Value} {T__law_marks : Addr} {tc__law_marks : Value} {td__law_marks : Option Addr} {tn__law_marks : Nat} {ts__law_marks : Array (Option Value)} {f__law_plain : Addr} {od__law_plain an__law_plain : Option Addr} {sl__law_plain : Array (Option Value)} {oc__law_plain kV__law_plain dc__law_plain pm__law_plain cd__law_plain ct__law_plain : Value} {f__law_all_marks : Addr} {od__law_all_marks an__law_all_marks : Option Addr} {sl__law_all_marks : Array (Option Value)} {oc__law_all_marks kV__law_all_marks dc__law_all_marks pm__law_all_marks cd__law_all_marks ct__law_all_marks : Value} {f__law_listed : Addr} {od__law_listed an__law_listed : Option Addr} {sl__law_listed : Array (Option Value)} {oc__law_listed kV__law_listed dc__law_listed pm__law_listed cd__law_listed ct__law_listed : Value} {f__law_one_right : Addr} {od__law_one_right an__law_one_right : Option Addr} {sl__law_one_right : Array (Option Value)} {oc__law_one_right kV__law_one_right dc__law_one_right pm__law_one_right cd__law_one_right ct__law_one_right : Value} {f_law : Addr} {od_law an_law : Option Addr} {sl_law : Array (Option Value)} {oc_law kV_law dc_law pm_law cd_law ct_law : Value} {ed_known : Option Addr} {en_known : Nat} {es_known : Array (Option Value)} {tk_SIGNS : Tok} {tk_MARK_SIGNS : Tok} {tk_MOST_SIGNS : Tok} {tk_MOST_PLACE : Tok} {tk_MOST_ARROWS : Tok} {tk_ARROW : Tok} {tk_MOST_MARKS : Tok}
    (a_Speech : PySem.W.nsIn K mainGlobals "Speech" = some (some (.ref CS)))
    (pg_Speech : PySem.W.plainGet K CS Str.empty = true)
    (hd_Speech : PySem.W.hasDictIn K CS = true)
    (po_Speech : PySem.W.plainOver K CS = true)
    (sa_Speech : PySem.W.findIn K (.ref CS) "__setattr__" = some (some (.builtin "object.__setattr__")))
    (mk_Speech : PySem.W.makesIn K CS = true)
    (kc_Speech : PySem.W.keepIn K (.ref CS) = true)
    (n_Speech_arrows : PySem.W.findIn K (.ref CS) "arrows" = some none)
    (n_Speech_starts : PySem.W.findIn K (.ref CS) "starts" = some none)
    (n_Speech_places : PySem.W.findIn K (.ref CS) "places" = some none)
    (n_Speech_sounds : PySem.W.findIn K (.ref CS) "sounds" = some none)
    (n_Speech_own_from : PySem.W.findIn K (.ref CS) "own_from" = some none)
    (ha_Speech : PySem.W.findIn K (.ref CS) "__class__" = some (some (.builtin "object.__class__")))
    (hm_Speech : PySem.W.mroIn K CS (.type "object") = some true)
    (a_Wall : PySem.W.nsIn K mainGlobals "Wall" = some (some (.ref CW)))
    (pg_Wall : PySem.W.plainGet K CW Str.empty = true)
    (hd_Wall : PySem.W.hasDictIn K CW = true)
    (po_Wall : PySem.W.plainOver K CW = true)
    (sa_Wall : PySem.W.findIn K (.ref CW) "__setattr__" = some (some (.builtin "object.__setattr__")))
    (mk_Wall : PySem.W.makesIn K CW = true)
    (kc_Wall : PySem.W.keepIn K (.ref CW) = true)
    (n_Wall_own_marks : PySem.W.findIn K (.ref CW) "own_marks" = some none)
    (n_Wall_sounds : PySem.W.findIn K (.ref CW) "sounds" = some none)
    (n_Wall_all_marks : PySem.W.findIn K (.ref CW) "all_marks" = some none)
    (ha_Wall : PySem.W.findIn K (.ref CW) "__class__" = some (some (.builtin "object.__class__")))
    (hm_Wall : PySem.W.mroIn K CW (.type "object") = some true)
    (a_Hearing : PySem.W.nsIn K mainGlobals "Hearing" = some (some (.ref CH)))
    (pg_Hearing : PySem.W.plainGet K CH Str.empty = true)
    (hd_Hearing : PySem.W.hasDictIn K CH = true)
    (po_Hearing : PySem.W.plainOver K CH = true)
    (sa_Hearing : PySem.W.findIn K (.ref CH) "__setattr__" = some (some (.builtin "object.__setattr__")))
    (mk_Hearing : PySem.W.makesIn K CH = true)
    (kc_Hearing : PySem.W.keepIn K (.ref CH) = true)
    (n_Hearing_speech : PySem.W.findIn K (.ref CH) "speech" = some none)
    (n_Hearing_wall : PySem.W.findIn K (.ref CH) "wall" = some none)
    (n_Hearing_unheard : PySem.W.findIn K (.ref CH) "unheard" = some none)
    (n_Hearing_led : PySem.W.findIn K (.ref CH) "led" = some none)
    (hn_class : PySem.W.specialIn K (.builtin "object.__class__") "__get__" = some (some (.builtin "getset_descriptor.__get__")))
    (ht_class : PySem.W.takesIn K (.builtin "object.__class__") = some true)
    (a_is_integer : PySem.W.nsIn K mainGlobals "is_integer" = some (some (.ref f_is_integer)))
    (l_is_integer : K.lookup f_is_integer = some ⟨oc_is_integer, od_is_integer, .func (PySem.W.fnOf "is_integer" "is_integer" (defArgs s_is_integer) (defBody s_is_integer) (defScope s_is_integer) .none kV_is_integer dc_is_integer pm_is_integer an_is_integer cd_is_integer ct_is_integer), sl_is_integer⟩)
    (c_is_integer : PySem.W.codeIn K cd_is_integer "is_integer" = true)
    (k_is_integer : PySem.W.keepIn K (.ref f_is_integer) = true)
    (a_is_within : PySem.W.nsIn K mainGlobals "is_within" = some (some (.ref f_is_within)))
    (l_is_within : K.lookup f_is_within = some ⟨oc_is_within, od_is_within, .func (PySem.W.fnOf "is_within" "is_within" (defArgs s_is_within) (defBody s_is_within) (defScope s_is_within) .none kV_is_within dc_is_within pm_is_within an_is_within cd_is_within ct_is_within), sl_is_within⟩)
    (c_is_within : PySem.W.codeIn K cd_is_within "is_within" = true)
    (k_is_within : PySem.W.keepIn K (.ref f_is_within) = true)
    (a_is_listed : PySem.W.nsIn K mainGlobals "is_listed" = some (some (.ref f_is_listed)))
    (l_is_listed : K.lookup f_is_listed = some ⟨oc_is_listed, od_is_listed, .func (PySem.W.fnOf "is_listed" "is_listed" (defArgs s_is_listed) (defBody s_is_listed) (defScope s_is_listed) .none kV_is_listed dc_is_listed pm_is_listed an_is_listed cd_is_listed ct_is_listed), sl_is_listed⟩)
    (c_is_listed : PySem.W.codeIn K cd_is_listed "is_listed" = true)
    (k_is_listed : PySem.W.keepIn K (.ref f_is_listed) = true)
    (a_is_sound : PySem.W.nsIn K mainGlobals "is_sound" = some (some (.ref f_is_sound)))
    (l_is_sound : K.lookup f_is_sound = some ⟨oc_is_sound, od_is_sound, .func (PySem.W.fnOf "is_sound" "is_sound" (defArgs s_is_sound) (defBody s_is_sound) (defScope s_is_sound) .none kV_is_sound dc_is_sound pm_is_sound an_is_sound cd_is_sound ct_is_sound), sl_is_sound⟩)
    (c_is_sound : PySem.W.codeIn K cd_is_sound "is_sound" = true)
    (k_is_sound : PySem.W.keepIn K (.ref f_is_sound) = true)
    (a_ascends : PySem.W.nsIn K mainGlobals "ascends" = some (some (.ref f_ascends)))
    (l_ascends : K.lookup f_ascends = some ⟨oc_ascends, od_ascends, .func (PySem.W.fnOf "ascends" "ascends" (defArgs s_ascends) (defBody s_ascends) (defScope s_ascends) .none kV_ascends dc_ascends pm_ascends an_ascends cd_ascends ct_ascends), sl_ascends⟩)
    (c_ascends : PySem.W.codeIn K cd_ascends "ascends" = true)
    (k_ascends : PySem.W.keepIn K (.ref f_ascends) = true)
    (a_is_mark : PySem.W.nsIn K mainGlobals "is_mark" = some (some (.ref f_is_mark)))
    (l_is_mark : K.lookup f_is_mark = some ⟨oc_is_mark, od_is_mark, .func (PySem.W.fnOf "is_mark" "is_mark" (defArgs s_is_mark) (defBody s_is_mark) (defScope s_is_mark) .none kV_is_mark dc_is_mark pm_is_mark an_is_mark cd_is_mark ct_is_mark), sl_is_mark⟩)
    (c_is_mark : PySem.W.codeIn K cd_is_mark "is_mark" = true)
    (k_is_mark : PySem.W.keepIn K (.ref f_is_mark) = true)
    (a_is_heard : PySem.W.nsIn K mainGlobals "is_heard" = some (some (.ref f_is_heard)))
    (l_is_heard : K.lookup f_is_heard = some ⟨oc_is_heard, od_is_heard, .func (PySem.W.fnOf "is_heard" "is_heard" (defArgs s_is_heard) (defBody s_is_heard) (defScope s_is_heard) .none kV_is_heard dc_is_heard pm_is_heard an_is_heard cd_is_heard ct_is_heard), sl_is_heard⟩)
    (c_is_heard : PySem.W.codeIn K cd_is_heard "is_heard" = true)
    (k_is_heard : PySem.W.keepIn K (.ref f_is_heard) = true)
    (a_is_lot : PySem.W.nsIn K mainGlobals "is_lot" = some (some (.ref f_is_lot)))
    (l_is_lot : K.lookup f_is_lot = some ⟨oc_is_lot, od_is_lot, .func (PySem.W.fnOf "is_lot" "is_lot" (defArgs s_is_lot) (defBody s_is_lot) (defScope s_is_lot) .none kV_is_lot dc_is_lot pm_is_lot an_is_lot cd_is_lot ct_is_lot), sl_is_lot⟩)
    (c_is_lot : PySem.W.codeIn K cd_is_lot "is_lot" = true)
    (k_is_lot : PySem.W.keepIn K (.ref f_is_lot) = true)
    (a_is_arrow : PySem.W.nsIn K mainGlobals "is_arrow" = some (some (.ref f_is_arrow)))
    (l_is_arrow : K.lookup f_is_arrow = some ⟨oc_is_arrow, od_is_arrow, .func (PySem.W.fnOf "is_arrow" "is_arrow" (defArgs s_is_arrow) (defBody s_is_arrow) (defScope s_is_arrow) .none kV_is_arrow dc_is_arrow pm_is_arrow an_is_arrow cd_is_arrow ct_is_arrow), sl_is_arrow⟩)
    (c_is_arrow : PySem.W.codeIn K cd_is_arrow "is_arrow" = true)
    (k_is_arrow : PySem.W.keepIn K (.ref f_is_arrow) = true)
    (a_Speech___init__ : PySem.W.findIn K (.ref CS) "__init__" = some (some (.ref f_Speech___init__)))
    (i_Speech___init__ : PySem.W.isFn K (.ref f_Speech___init__) = true)
    (l_Speech___init__ : K.lookup f_Speech___init__ = some ⟨oc_Speech___init__, od_Speech___init__, .func (PySem.W.fnOf "__init__" "Speech.__init__" (defArgs s_Speech___init__) (defBody s_Speech___init__) (defScope s_Speech___init__) .none kV_Speech___init__ dc_Speech___init__ pm_Speech___init__ an_Speech___init__ cd_Speech___init__ ct_Speech___init__), sl_Speech___init__⟩)
    (c_Speech___init__ : PySem.W.codeIn K cd_Speech___init__ "Speech.__init__" = true)
    (k_Speech___init__ : PySem.W.keepIn K (.ref f_Speech___init__) = true)
    (a_are_marks : PySem.W.nsIn K mainGlobals "are_marks" = some (some (.ref f_are_marks)))
    (l_are_marks : K.lookup f_are_marks = some ⟨oc_are_marks, od_are_marks, .func (PySem.W.fnOf "are_marks" "are_marks" (defArgs s_are_marks) (defBody s_are_marks) (defScope s_are_marks) .none kV_are_marks dc_are_marks pm_are_marks an_are_marks cd_are_marks ct_are_marks), sl_are_marks⟩)
    (c_are_marks : PySem.W.codeIn K cd_are_marks "are_marks" = true)
    (k_are_marks : PySem.W.keepIn K (.ref f_are_marks) = true)
    (a_Wall___init__ : PySem.W.findIn K (.ref CW) "__init__" = some (some (.ref f_Wall___init__)))
    (i_Wall___init__ : PySem.W.isFn K (.ref f_Wall___init__) = true)
    (l_Wall___init__ : K.lookup f_Wall___init__ = some ⟨oc_Wall___init__, od_Wall___init__, .func (PySem.W.fnOf "__init__" "Wall.__init__" (defArgs s_Wall___init__) (defBody s_Wall___init__) (defScope s_Wall___init__) .none kV_Wall___init__ dc_Wall___init__ pm_Wall___init__ an_Wall___init__ cd_Wall___init__ ct_Wall___init__), sl_Wall___init__⟩)
    (c_Wall___init__ : PySem.W.codeIn K cd_Wall___init__ "Wall.__init__" = true)
    (k_Wall___init__ : PySem.W.keepIn K (.ref f_Wall___init__) = true)
    (a_need_speech : PySem.W.nsIn K mainGlobals "need_speech" = some (some (.ref f_need_speech)))
    (l_need_speech : K.lookup f_need_speech = some ⟨oc_need_speech, od_need_speech, .func (PySem.W.fnOf "need_speech" "need_speech" (defArgs s_need_speech) (defBody s_need_speech) (defScope s_need_speech) (.ref T_need_speech) kV_need_speech dc_need_speech pm_need_speech an_need_speech cd_need_speech ct_need_speech), sl_need_speech⟩)
    (c_need_speech : PySem.W.codeIn K cd_need_speech "need_speech" = true)
    (k_need_speech : PySem.W.keepIn K (.ref f_need_speech) = true)
    (lT_need_speech : K.lookup T_need_speech = some ⟨tc_need_speech, td_need_speech, .seq #[Value.str "speech" uT_need_speech] tn_need_speech, ts_need_speech⟩)
    (a_need_wall : PySem.W.nsIn K mainGlobals "need_wall" = some (some (.ref f_need_wall)))
    (l_need_wall : K.lookup f_need_wall = some ⟨oc_need_wall, od_need_wall, .func (PySem.W.fnOf "need_wall" "need_wall" (defArgs s_need_wall) (defBody s_need_wall) (defScope s_need_wall) .none kV_need_wall dc_need_wall pm_need_wall an_need_wall cd_need_wall ct_need_wall), sl_need_wall⟩)
    (c_need_wall : PySem.W.codeIn K cd_need_wall "need_wall" = true)
    (k_need_wall : PySem.W.keepIn K (.ref f_need_wall) = true)
    (a_Hearing___init__ : PySem.W.findIn K (.ref CH) "__init__" = some (some (.ref f_Hearing___init__)))
    (i_Hearing___init__ : PySem.W.isFn K (.ref f_Hearing___init__) = true)
    (l_Hearing___init__ : K.lookup f_Hearing___init__ = some ⟨oc_Hearing___init__, od_Hearing___init__, .func (PySem.W.fnOf "__init__" "Hearing.__init__" (defArgs s_Hearing___init__) (defBody s_Hearing___init__) (defScope s_Hearing___init__) .none kV_Hearing___init__ dc_Hearing___init__ pm_Hearing___init__ an_Hearing___init__ cd_Hearing___init__ ct_Hearing___init__), sl_Hearing___init__⟩)
    (c_Hearing___init__ : PySem.W.codeIn K cd_Hearing___init__ "Hearing.__init__" = true)
    (k_Hearing___init__ : PySem.W.keepIn K (.ref f_Hearing___init__) = true)
    (a_Hearing_closed : PySem.W.findIn K (.ref CH) "closed" = some (some (.ref f_Hearing_closed)))
    (i_Hearing_closed : PySem.W.isFn K (.ref f_Hearing_closed) = true)
    (l_Hearing_closed : K.lookup f_Hearing_closed = some ⟨oc_Hearing_closed, od_Hearing_closed, .func (PySem.W.fnOf "closed" "Hearing.closed" (defArgs s_Hearing_closed) (defBody s_Hearing_closed) (defScope s_Hearing_closed) .none kV_Hearing_closed dc_Hearing_closed pm_Hearing_closed an_Hearing_closed cd_Hearing_closed ct_Hearing_closed), sl_Hearing_closed⟩)
    (c_Hearing_closed : PySem.W.codeIn K cd_Hearing_closed "Hearing.closed" = true)
    (k_Hearing_closed : PySem.W.keepIn K (.ref f_Hearing_closed) = true)
    (a_Hearing_begun : PySem.W.findIn K (.ref CH) "begun" = some (some (.ref f_Hearing_begun)))
    (i_Hearing_begun : PySem.W.isFn K (.ref f_Hearing_begun) = true)
    (l_Hearing_begun : K.lookup f_Hearing_begun = some ⟨oc_Hearing_begun, od_Hearing_begun, .func (PySem.W.fnOf "begun" "Hearing.begun" (defArgs s_Hearing_begun) (defBody s_Hearing_begun) (defScope s_Hearing_begun) .none kV_Hearing_begun dc_Hearing_begun pm_Hearing_begun an_Hearing_begun cd_Hearing_begun ct_Hearing_begun), sl_Hearing_begun⟩)
    (c_Hearing_begun : PySem.W.codeIn K cd_Hearing_begun "Hearing.begun" = true)
    (k_Hearing_begun : PySem.W.keepIn K (.ref f_Hearing_begun) = true)
    (a_Hearing_behind : PySem.W.findIn K (.ref CH) "behind" = some (some (.ref f_Hearing_behind)))
    (i_Hearing_behind : PySem.W.isFn K (.ref f_Hearing_behind) = true)
    (l_Hearing_behind : K.lookup f_Hearing_behind = some ⟨oc_Hearing_behind, od_Hearing_behind, .func (PySem.W.fnOf "behind" "Hearing.behind" (defArgs s_Hearing_behind) (defBody s_Hearing_behind) (defScope s_Hearing_behind) .none kV_Hearing_behind dc_Hearing_behind pm_Hearing_behind an_Hearing_behind cd_Hearing_behind ct_Hearing_behind), sl_Hearing_behind⟩)
    (c_Hearing_behind : PySem.W.codeIn K cd_Hearing_behind "Hearing.behind" = true)
    (k_Hearing_behind : PySem.W.keepIn K (.ref f_Hearing_behind) = true)
    (a_need_hearing : PySem.W.nsIn K mainGlobals "need_hearing" = some (some (.ref f_need_hearing)))
    (l_need_hearing : K.lookup f_need_hearing = some ⟨oc_need_hearing, od_need_hearing, .func (PySem.W.fnOf "need_hearing" "need_hearing" (defArgs s_need_hearing) (defBody s_need_hearing) (defScope s_need_hearing) .none kV_need_hearing dc_need_hearing pm_need_hearing an_need_hearing cd_need_hearing ct_need_hearing), sl_need_hearing⟩)
    (c_need_hearing : PySem.W.codeIn K cd_need_hearing "need_hearing" = true)
    (k_need_hearing : PySem.W.keepIn K (.ref f_need_hearing) = true)
    (a_need_row : PySem.W.nsIn K mainGlobals "need_row" = some (some (.ref f_need_row)))
    (l_need_row : K.lookup f_need_row = some ⟨oc_need_row, od_need_row, .func (PySem.W.fnOf "need_row" "need_row" (defArgs s_need_row) (defBody s_need_row) (defScope s_need_row) .none kV_need_row dc_need_row pm_need_row an_need_row cd_need_row ct_need_row), sl_need_row⟩)
    (c_need_row : PySem.W.codeIn K cd_need_row "need_row" = true)
    (k_need_row : PySem.W.keepIn K (.ref f_need_row) = true)
    (a_known : PySem.W.nsIn K mainGlobals "known" = some (some (.ref f_known)))
    (l_known : K.lookup f_known = some ⟨oc_known, od_known, .func (PySem.W.fnOf "known" "known" (defArgs s_known) (defBody s_known) (defScope s_known) (.ref T_known) kV_known dc_known pm_known an_known cd_known ct_known), sl_known⟩)
    (c_known : PySem.W.codeIn K cd_known "known" = true)
    (k_known : PySem.W.keepIn K (.ref f_known) = true)
    (lT_known : K.lookup T_known = some ⟨tc_known, td_known, .seq #[Value.ref E_known] tn_known, ts_known⟩)
    (a__law_pen : PySem.W.nsIn K mainGlobals "_law_pen" = some (some (.ref f__law_pen)))
    (l__law_pen : K.lookup f__law_pen = some ⟨oc__law_pen, od__law_pen, .func (PySem.W.fnOf "_law_pen" "_law_pen" (defArgs s__law_pen) (defBody s__law_pen) (defScope s__law_pen) .none kV__law_pen dc__law_pen pm__law_pen an__law_pen cd__law_pen ct__law_pen), sl__law_pen⟩)
    (c__law_pen : PySem.W.codeIn K cd__law_pen "_law_pen" = true)
    (k__law_pen : PySem.W.keepIn K (.ref f__law_pen) = true)
    (a__law_draw : PySem.W.nsIn K mainGlobals "_law_draw" = some (some (.ref f__law_draw)))
    (l__law_draw : K.lookup f__law_draw = some ⟨oc__law_draw, od__law_draw, .func (PySem.W.fnOf "_law_draw" "_law_draw" (defArgs s__law_draw) (defBody s__law_draw) (defScope s__law_draw) .none kV__law_draw dc__law_draw pm__law_draw an__law_draw cd__law_draw ct__law_draw), sl__law_draw⟩)
    (c__law_draw : PySem.W.codeIn K cd__law_draw "_law_draw" = true)
    (k__law_draw : PySem.W.keepIn K (.ref f__law_draw) = true)
    (a__law_pick : PySem.W.nsIn K mainGlobals "_law_pick" = some (some (.ref f__law_pick)))
    (l__law_pick : K.lookup f__law_pick = some ⟨oc__law_pick, od__law_pick, .func (PySem.W.fnOf "_law_pick" "_law_pick" (defArgs s__law_pick) (defBody s__law_pick) (defScope s__law_pick) .none kV__law_pick dc__law_pick pm__law_pick an__law_pick cd__law_pick ct__law_pick), sl__law_pick⟩)
    (c__law_pick : PySem.W.codeIn K cd__law_pick "_law_pick" = true)
    (k__law_pick : PySem.W.keepIn K (.ref f__law_pick) = true)
    (a__law_shuffled : PySem.W.nsIn K mainGlobals "_law_shuffled" = some (some (.ref f__law_shuffled)))
    (l__law_shuffled : K.lookup f__law_shuffled = some ⟨oc__law_shuffled, od__law_shuffled, .func (PySem.W.fnOf "_law_shuffled" "_law_shuffled" (defArgs s__law_shuffled) (defBody s__law_shuffled) (defScope s__law_shuffled) .none kV__law_shuffled dc__law_shuffled pm__law_shuffled an__law_shuffled cd__law_shuffled ct__law_shuffled), sl__law_shuffled⟩)
    (c__law_shuffled : PySem.W.codeIn K cd__law_shuffled "_law_shuffled" = true)
    (k__law_shuffled : PySem.W.keepIn K (.ref f__law_shuffled) = true)
    (a__law_arrows : PySem.W.nsIn K mainGlobals "_law_arrows" = some (some (.ref f__law_arrows)))
    (l__law_arrows : K.lookup f__law_arrows = some ⟨oc__law_arrows, od__law_arrows, .func (PySem.W.fnOf "_law_arrows" "_law_arrows" (defArgs s__law_arrows) (defBody s__law_arrows) (defScope s__law_arrows) .none kV__law_arrows dc__law_arrows pm__law_arrows an__law_arrows cd__law_arrows ct__law_arrows), sl__law_arrows⟩)
    (c__law_arrows : PySem.W.codeIn K cd__law_arrows "_law_arrows" = true)
    (k__law_arrows : PySem.W.keepIn K (.ref f__law_arrows) = true)
    (a__law_marks : PySem.W.nsIn K mainGlobals "_law_marks" = some (some (.ref f__law_marks)))
    (l__law_marks : K.lookup f__law_marks = some ⟨oc__law_marks, od__law_marks, .func (PySem.W.fnOf "_law_marks" "_law_marks" (defArgs s__law_marks) (defBody s__law_marks) (defScope s__law_marks) (.ref T__law_marks) kV__law_marks dc__law_marks pm__law_marks an__law_marks cd__law_marks ct__law_marks), sl__law_marks⟩)
    (c__law_marks : PySem.W.codeIn K cd__law_marks "_law_marks" = true)
    (k__law_marks : PySem.W.keepIn K (.ref f__law_marks) = true)
    (lT__law_marks : K.lookup T__law_marks = some ⟨tc__law_marks, td__law_marks, .seq #[Value.bool false] tn__law_marks, ts__law_marks⟩)
    (a__law_plain : PySem.W.nsIn K mainGlobals "_law_plain" = some (some (.ref f__law_plain)))
    (l__law_plain : K.lookup f__law_plain = some ⟨oc__law_plain, od__law_plain, .func (PySem.W.fnOf "_law_plain" "_law_plain" (defArgs s__law_plain) (defBody s__law_plain) (defScope s__law_plain) .none kV__law_plain dc__law_plain pm__law_plain an__law_plain cd__law_plain ct__law_plain), sl__law_plain⟩)
    (c__law_plain : PySem.W.codeIn K cd__law_plain "_law_plain" = true)
    (k__law_plain : PySem.W.keepIn K (.ref f__law_plain) = true)
    (a__law_all_marks : PySem.W.nsIn K mainGlobals "_law_all_marks" = some (some (.ref f__law_all_marks)))
    (l__law_all_marks : K.lookup f__law_all_marks = some ⟨oc__law_all_marks, od__law_all_marks, .func (PySem.W.fnOf "_law_all_marks" "_law_all_marks" (defArgs s__law_all_marks) (defBody s__law_all_marks) (defScope s__law_all_marks) .none kV__law_all_marks dc__law_all_marks pm__law_all_marks an__law_all_marks cd__law_all_marks ct__law_all_marks), sl__law_all_marks⟩)
    (c__law_all_marks : PySem.W.codeIn K cd__law_all_marks "_law_all_marks" = true)
    (k__law_all_marks : PySem.W.keepIn K (.ref f__law_all_marks) = true)
    (a__law_listed : PySem.W.nsIn K mainGlobals "_law_listed" = some (some (.ref f__law_listed)))
    (l__law_listed : K.lookup f__law_listed = some ⟨oc__law_listed, od__law_listed, .func (PySem.W.fnOf "_law_listed" "_law_listed" (defArgs s__law_listed) (defBody s__law_listed) (defScope s__law_listed) .none kV__law_listed dc__law_listed pm__law_listed an__law_listed cd__law_listed ct__law_listed), sl__law_listed⟩)
    (c__law_listed : PySem.W.codeIn K cd__law_listed "_law_listed" = true)
    (k__law_listed : PySem.W.keepIn K (.ref f__law_listed) = true)
    (a__law_one_right : PySem.W.nsIn K mainGlobals "_law_one_right" = some (some (.ref f__law_one_right)))
    (l__law_one_right : K.lookup f__law_one_right = some ⟨oc__law_one_right, od__law_one_right, .func (PySem.W.fnOf "_law_one_right" "_law_one_right" (defArgs s__law_one_right) (defBody s__law_one_right) (defScope s__law_one_right) .none kV__law_one_right dc__law_one_right pm__law_one_right an__law_one_right cd__law_one_right ct__law_one_right), sl__law_one_right⟩)
    (c__law_one_right : PySem.W.codeIn K cd__law_one_right "_law_one_right" = true)
    (k__law_one_right : PySem.W.keepIn K (.ref f__law_one_right) = true)
    (a_law : PySem.W.nsIn K mainGlobals "law" = some (some (.ref f_law)))
    (l_law : K.lookup f_law = some ⟨oc_law, od_law, .func (PySem.W.fnOf "law" "law" (defArgs s_law) (defBody s_law) (defScope s_law) .none kV_law dc_law pm_law an_law cd_law ct_law), sl_law⟩)
    (c_law : PySem.W.codeIn K cd_law "law" = true)
    (k_law : PySem.W.keepIn K (.ref f_law) = true)
    (lE_known : K.lookup E_known = some ⟨.type "tuple", ed_known, .seq #[] en_known, es_known⟩)
    (z_isinstance : PySem.W.nsIn K mainGlobals "isinstance" = some none)
    (z_len : PySem.W.nsIn K mainGlobals "len" = some none)
    (z_all : PySem.W.nsIn K mainGlobals "all" = some none)
    (z_any : PySem.W.nsIn K mainGlobals "any" = some none)
    (z_sorted : PySem.W.nsIn K mainGlobals "sorted" = some none)
    (z_zip : PySem.W.nsIn K mainGlobals "zip" = some none)
    (z_enumerate : PySem.W.nsIn K mainGlobals "enumerate" = some none)
    (z_range : PySem.W.nsIn K mainGlobals "range" = some none)
    (z_abs : PySem.W.nsIn K mainGlobals "abs" = some none)
    (z_set : PySem.W.nsIn K mainGlobals "set" = some none)
    (z_tuple : PySem.W.nsIn K mainGlobals "tuple" = some none)
    (z_list : PySem.W.nsIn K mainGlobals "list" = some none)
    (z_dict : PySem.W.nsIn K mainGlobals "dict" = some none)
    (z_int : PySem.W.nsIn K mainGlobals "int" = some none)
    (z_bool : PySem.W.nsIn K mainGlobals "bool" = some none)
    (z_str : PySem.W.nsIn K mainGlobals "str" = some none)
    (z_repr : PySem.W.nsIn K mainGlobals "repr" = some none)
    (z_SIGNS : PySem.W.nsIn K mainGlobals "SIGNS" = some (some (.str "abcdefghijklmnopqrstuvwxyz" tk_SIGNS)))
    (z_MARK_SIGNS : PySem.W.nsIn K mainGlobals "MARK_SIGNS" = some (some (.str "abcdefghijklmnopqrstuvwxyz+-" tk_MARK_SIGNS)))
    (z_MOST_SIGNS : PySem.W.nsIn K mainGlobals "MOST_SIGNS" = some (some (.int 8 tk_MOST_SIGNS)))
    (z_MOST_PLACE : PySem.W.nsIn K mainGlobals "MOST_PLACE" = some (some (.int 399 tk_MOST_PLACE)))
    (z_MOST_ARROWS : PySem.W.nsIn K mainGlobals "MOST_ARROWS" = some (some (.int 2000 tk_MOST_ARROWS)))
    (z_ARROW : PySem.W.nsIn K mainGlobals "ARROW" = some (some (.int 3 tk_ARROW)))
    (z_MOST_MARKS : PySem.W.nsIn K mainGlobals "MOST_MARKS" = some (some (.int 6 tk_MOST_MARKS)))
    : ∃ fd : FuncData, (∀ (s : Shared) (v : Value), BindsTo s fd ⟨[v], []⟩ [("script", v)]) ∧ ∀ base : Heap, K.In base → base.Ns mainGlobals mg → FnOk l.prog w K mg base CX0 7 fa fd ["script"] (spLaw K) := by
  have e := hfa.symm.trans (PySem.W.mg_of X G a_law)
  cases e
  have T : Txt mg := ⟨PySem.W.mg_none_of X G z_isinstance, PySem.W.mg_none_of X G z_len, PySem.W.mg_none_of X G z_all, PySem.W.mg_none_of X G z_any, PySem.W.mg_none_of X G z_sorted, PySem.W.mg_none_of X G z_zip, PySem.W.mg_none_of X G z_enumerate, PySem.W.mg_none_of X G z_range, PySem.W.mg_none_of X G z_abs, PySem.W.mg_none_of X G z_set, PySem.W.mg_none_of X G z_tuple, PySem.W.mg_none_of X G z_list, PySem.W.mg_none_of X G z_dict, PySem.W.mg_none_of X G z_int, PySem.W.mg_none_of X G z_bool, PySem.W.mg_none_of X G z_str, PySem.W.mg_none_of X G z_repr, cons_of X G z_SIGNS ⟨_, rfl⟩, cons_of X G z_MARK_SIGNS ⟨_, rfl⟩, cons_of X G z_MOST_SIGNS ⟨_, rfl⟩, cons_of X G z_MOST_PLACE ⟨_, rfl⟩, cons_of X G z_MOST_ARROWS ⟨_, rfl⟩, cons_of X G z_ARROW ⟨_, rfl⟩, cons_of X G z_MOST_MARKS ⟨_, rfl⟩⟩
  have cl_Speech : Cls K CS := ⟨pg_Speech, hd_Speech, po_Speech, sa_Speech⟩
  have TS : SpC K CS := ⟨cl_Speech, n_Speech_arrows, n_Speech_starts, n_Speech_places, n_Speech_sounds, n_Speech_own_from⟩
  have g_Speech := PySem.W.mg_of X G a_Speech
  have IS : InsC K CS := ⟨cl_Speech, ha_Speech, hn_class, ht_class, hm_Speech⟩
  have cl_Wall : Cls K CW := ⟨pg_Wall, hd_Wall, po_Wall, sa_Wall⟩
  have TW_ : WaC K CW := ⟨cl_Wall, n_Wall_own_marks, n_Wall_sounds, n_Wall_all_marks⟩
  have g_Wall := PySem.W.mg_of X G a_Wall
  have IW : InsC K CW := ⟨cl_Wall, ha_Wall, hn_class, ht_class, hm_Wall⟩
  have cl_Hearing : Cls K CH := ⟨pg_Hearing, hd_Hearing, po_Hearing, sa_Hearing⟩
  have TH : HeC K CH := ⟨cl_Hearing, n_Hearing_speech, n_Hearing_wall, n_Hearing_unheard, n_Hearing_led⟩
  have g_Hearing := PySem.W.mg_of X G a_Hearing
  have F_is_integer := fun_mk (st := s_is_integer) l_is_integer c_is_integer k_is_integer
  have F_is_within := fun_mk (st := s_is_within) l_is_within c_is_within k_is_within
  have F_is_listed := fun_mk (st := s_is_listed) l_is_listed c_is_listed k_is_listed
  have F_is_sound := fun_mk (st := s_is_sound) l_is_sound c_is_sound k_is_sound
  have F_ascends := fun_mk (st := s_ascends) l_ascends c_ascends k_ascends
  have F_is_mark := fun_mk (st := s_is_mark) l_is_mark c_is_mark k_is_mark
  have F_is_heard := fun_mk (st := s_is_heard) l_is_heard c_is_heard k_is_heard
  have F_is_lot := fun_mk (st := s_is_lot) l_is_lot c_is_lot k_is_lot
  have F_is_arrow := fun_mk (st := s_is_arrow) l_is_arrow c_is_arrow k_is_arrow
  have F_Speech___init__ := fun_mk (st := s_Speech___init__) l_Speech___init__ c_Speech___init__ k_Speech___init__
  have F_are_marks := fun_mk (st := s_are_marks) l_are_marks c_are_marks k_are_marks
  have F_Wall___init__ := fun_mk (st := s_Wall___init__) l_Wall___init__ c_Wall___init__ k_Wall___init__
  have F_need_speech := fund_mk (st := s_need_speech) (v := .str "speech") l_need_speech c_need_speech k_need_speech lT_need_speech ⟨_, rfl⟩
  have F_need_wall := fun_mk (st := s_need_wall) l_need_wall c_need_wall k_need_wall
  have F_Hearing___init__ := fun_mk (st := s_Hearing___init__) l_Hearing___init__ c_Hearing___init__ k_Hearing___init__
  have F_Hearing_closed := fun_mk (st := s_Hearing_closed) l_Hearing_closed c_Hearing_closed k_Hearing_closed
  have F_Hearing_begun := fun_mk (st := s_Hearing_begun) l_Hearing_begun c_Hearing_begun k_Hearing_begun
  have F_Hearing_behind := fun_mk (st := s_Hearing_behind) l_Hearing_behind c_Hearing_behind k_Hearing_behind
  have F_need_hearing := fun_mk (st := s_need_hearing) l_need_hearing c_need_hearing k_need_hearing
  have F_need_row := fun_mk (st := s_need_row) l_need_row c_need_row k_need_row
  have F_known := fund_mk (st := s_known) (v := .ref E_known) l_known c_known k_known lT_known rfl
  have F__law_pen := fun_mk (st := s__law_pen) l__law_pen c__law_pen k__law_pen
  have F__law_draw := fun_mk (st := s__law_draw) l__law_draw c__law_draw k__law_draw
  have F__law_pick := fun_mk (st := s__law_pick) l__law_pick c__law_pick k__law_pick
  have F__law_shuffled := fun_mk (st := s__law_shuffled) l__law_shuffled c__law_shuffled k__law_shuffled
  have F__law_arrows := fun_mk (st := s__law_arrows) l__law_arrows c__law_arrows k__law_arrows
  have F__law_marks := fund_mk (st := s__law_marks) (v := .bl false) l__law_marks c__law_marks k__law_marks lT__law_marks rfl
  have F__law_plain := fun_mk (st := s__law_plain) l__law_plain c__law_plain k__law_plain
  have F__law_all_marks := fun_mk (st := s__law_all_marks) l__law_all_marks c__law_all_marks k__law_all_marks
  have F__law_listed := fun_mk (st := s__law_listed) l__law_listed c__law_listed k__law_listed
  have F__law_one_right := fun_mk (st := s__law_one_right) l__law_one_right c__law_one_right k__law_one_right
  have F_law := fun_mk (st := s_law) l_law c_law k_law
  refine ⟨PySem.W.fnOf "law" "law" (defArgs s_law) (defBody s_law) (defScope s_law) .none kV_law dc_law pm_law an_law cd_law ct_law, fun s v => .of_eq rfl, fun base _ _ => ?_⟩
  have O_is_integer : FnOk l.prog w K mg base CX0 1 f_is_integer _ ["value"] (spIsInt K) := ok_is_integer F_is_integer T
  have b_is_integer : Binds K _ ["value"] [] := F_is_integer.binds fun _ _ _ _ _ _ us hl => match us, hl with | [_], _ => rfl
  have C_is_integer : Cal l.prog w K mg base "is_integer" 1 ["value"] [] (spIsInt K) := cal_of F_is_integer (PySem.W.mg_of X G a_is_integer) b_is_integer O_is_integer
  have O_is_within : FnOk l.prog w K mg base CX0 2 f_is_within _ ["value", "least", "most"] (spWithin K) := ok_is_within F_is_within T C_is_integer
  have b_is_within : Binds K _ ["value", "least", "most"] [] := F_is_within.binds fun _ _ _ _ _ _ us hl => match us, hl with | [_, _, _], _ => rfl
  have C_is_within : Cal l.prog w K mg base "is_within" 2 ["value", "least", "most"] [] (spWithin K) := cal_of F_is_within (PySem.W.mg_of X G a_is_within) b_is_within O_is_within
  have O_is_listed : FnOk l.prog w K mg base CX0 1 f_is_listed _ ["value"] (spListed K) := ok_is_listed F_is_listed T
  have b_is_listed : Binds K _ ["value"] [] := F_is_listed.binds fun _ _ _ _ _ _ us hl => match us, hl with | [_], _ => rfl
  have C_is_listed : Cal l.prog w K mg base "is_listed" 1 ["value"] [] (spListed K) := cal_of F_is_listed (PySem.W.mg_of X G a_is_listed) b_is_listed O_is_listed
  have O_is_sound : FnOk l.prog w K mg base CX0 1 f_is_sound _ ["value"] (spSound K) := ok_is_sound F_is_sound T
  have b_is_sound : Binds K _ ["value"] [] := F_is_sound.binds fun _ _ _ _ _ _ us hl => match us, hl with | [_], _ => rfl
  have C_is_sound : Cal l.prog w K mg base "is_sound" 1 ["value"] [] (spSound K) := cal_of F_is_sound (PySem.W.mg_of X G a_is_sound) b_is_sound O_is_sound
  have O_ascends : FnOk l.prog w K mg base CX0 1 f_ascends _ ["value"] (spAsc K) := ok_ascends F_ascends T
  have b_ascends : Binds K _ ["value"] [] := F_ascends.binds fun _ _ _ _ _ _ us hl => match us, hl with | [_], _ => rfl
  have C_ascends : Cal l.prog w K mg base "ascends" 1 ["value"] [] (spAsc K) := cal_of F_ascends (PySem.W.mg_of X G a_ascends) b_ascends O_ascends
  have O_is_mark : FnOk l.prog w K mg base CX0 1 f_is_mark _ ["value"] (spMark K) := ok_is_mark F_is_mark T
  have b_is_mark : Binds K _ ["value"] [] := F_is_mark.binds fun _ _ _ _ _ _ us hl => match us, hl with | [_], _ => rfl
  have C_is_mark : Cal l.prog w K mg base "is_mark" 1 ["value"] [] (spMark K) := cal_of F_is_mark (PySem.W.mg_of X G a_is_mark) b_is_mark O_is_mark
  have O_is_heard : FnOk l.prog w K mg base CX0 2 f_is_heard _ ["value"] (spHeard K) := ok_is_heard F_is_heard T C_is_mark
  have b_is_heard : Binds K _ ["value"] [] := F_is_heard.binds fun _ _ _ _ _ _ us hl => match us, hl with | [_], _ => rfl
  have C_is_heard : Cal l.prog w K mg base "is_heard" 2 ["value"] [] (spHeard K) := cal_of F_is_heard (PySem.W.mg_of X G a_is_heard) b_is_heard O_is_heard
  have O_is_lot : FnOk l.prog w K mg base CX0 3 f_is_lot _ ["value"] (spLot K) := ok_is_lot F_is_lot T C_is_listed C_is_within C_ascends
  have b_is_lot : Binds K _ ["value"] [] := F_is_lot.binds fun _ _ _ _ _ _ us hl => match us, hl with | [_], _ => rfl
  have C_is_lot : Cal l.prog w K mg base "is_lot" 3 ["value"] [] (spLot K) := cal_of F_is_lot (PySem.W.mg_of X G a_is_lot) b_is_lot O_is_lot
  have O_is_arrow : FnOk l.prog w K mg base CX0 3 f_is_arrow _ ["value"] (spArrow K) := ok_is_arrow F_is_arrow T C_is_listed C_is_within C_is_sound
  have b_is_arrow : Binds K _ ["value"] [] := F_is_arrow.binds fun _ _ _ _ _ _ us hl => match us, hl with | [_], _ => rfl
  have C_is_arrow : Cal l.prog w K mg base "is_arrow" 3 ["value"] [] (spArrow K) := cal_of F_is_arrow (PySem.W.mg_of X G a_is_arrow) b_is_arrow O_is_arrow
  have O_Speech___init__ : FnOk l.prog w K mg base CX0 4 f_Speech___init__ _ ["self", "arrows", "starts"] (spSpI K CS) := ok_Speech_init F_Speech___init__ T TS C_is_listed C_is_arrow C_is_lot
  have b_Speech___init__ : Binds K _ ["self", "arrows", "starts"] [] := F_Speech___init__.binds fun _ _ _ _ _ _ us hl => match us, hl with | [_, _, _], _ => rfl
  have M_Speech : Mkr l.prog w K mg base "Speech" CS 4 ["self", "arrows", "starts"] (spSpI K CS) := ⟨f_Speech___init__, _, g_Speech, ⟨mk_Speech, a_Speech___init__, i_Speech___init__, kc_Speech⟩, b_Speech___init__, O_Speech___init__⟩
  have O_are_marks : FnOk l.prog w K mg base CX0 3 f_are_marks _ ["value"] (spMarks K) := ok_are_marks F_are_marks T C_is_listed C_is_heard
  have b_are_marks : Binds K _ ["value"] [] := F_are_marks.binds fun _ _ _ _ _ _ us hl => match us, hl with | [_], _ => rfl
  have C_are_marks : Cal l.prog w K mg base "are_marks" 3 ["value"] [] (spMarks K) := cal_of F_are_marks (PySem.W.mg_of X G a_are_marks) b_are_marks O_are_marks
  have O_Wall___init__ : FnOk l.prog w K mg base CX0 4 f_Wall___init__ _ ["self", "marks"] (spWaI K CW) := ok_Wall_init F_Wall___init__ T TW_ C_is_sound C_are_marks
  have b_Wall___init__ : Binds K _ ["self", "marks"] [] := F_Wall___init__.binds fun _ _ _ _ _ _ us hl => match us, hl with | [_, _], _ => rfl
  have M_Wall : Mkr l.prog w K mg base "Wall" CW 4 ["self", "marks"] (spWaI K CW) := ⟨f_Wall___init__, _, g_Wall, ⟨mk_Wall, a_Wall___init__, i_Wall___init__, kc_Wall⟩, b_Wall___init__, O_Wall___init__⟩
  have O_need_speech : FnOk l.prog w K mg base CX0 1 f_need_speech _ ["value", "part"] (spNeedSp K CS) := ok_need_speech F_need_speech T g_Speech IS
  have C_need_speech : Cal l.prog w K mg base "need_speech" 1 ["value", "part"] [.str "speech"] (spNeedSp K CS) := calD_of F_need_speech (PySem.W.mg_of X G a_need_speech) (F_need_speech.binds1 1 0 (by simp) rfl fun _ _ _ _ _ _ _ us its h1 h2 => match us, its, h1, h2 with | [_], [_], _, _ => ⟨_, rfl, rfl⟩) O_need_speech
  have O_need_wall : FnOk l.prog w K mg base CX0 2 f_need_wall _ ["value", "speech"] (spNeedWa K CS CW) := ok_need_wall F_need_wall T g_Wall IW TS TW_
  have b_need_wall : Binds K _ ["value", "speech"] [] := F_need_wall.binds fun _ _ _ _ _ _ us hl => match us, hl with | [_, _], _ => rfl
  have C_need_wall : Cal l.prog w K mg base "need_wall" 2 ["value", "speech"] [] (spNeedWa K CS CW) := cal_of F_need_wall (PySem.W.mg_of X G a_need_wall) b_need_wall O_need_wall
  have O_Hearing___init__ : FnOk l.prog w K mg base CX0 1 f_Hearing___init__ _ ["self", "speech", "wall"] (spHeI K CH CS CW) := ok_Hearing_init F_Hearing___init__ T TH TS TW_
  have b_Hearing___init__ : Binds K _ ["self", "speech", "wall"] [] := F_Hearing___init__.binds fun _ _ _ _ _ _ us hl => match us, hl with | [_, _, _], _ => rfl
  have M_Hearing : Mkr l.prog w K mg base "Hearing" CH 1 ["self", "speech", "wall"] (spHeI K CH CS CW) := ⟨f_Hearing___init__, _, g_Hearing, ⟨mk_Hearing, a_Hearing___init__, i_Hearing___init__, kc_Hearing⟩, b_Hearing___init__, O_Hearing___init__⟩
  have O_Hearing_closed : FnOk l.prog w K mg base CX0 1 f_Hearing_closed _ ["self", "places"] (spClosed K CH CS CW) := ok_closed F_Hearing_closed T TH
  have b_Hearing_closed : Binds K _ ["self", "places"] [] := F_Hearing_closed.binds fun _ _ _ _ _ _ us hl => match us, hl with | [_, _], _ => rfl
  have Me_Hearing_closed : Met l.prog w K mg base CH "closed" 1 ["self", "places"] (spClosed K CH CS CW) := ⟨cl_Hearing, f_Hearing_closed, _, ⟨a_Hearing_closed, i_Hearing_closed, k_Hearing_closed⟩, b_Hearing_closed, O_Hearing_closed⟩
  have O_Hearing_begun : FnOk l.prog w K mg base CX0 2 f_Hearing_begun _ ["self"] (spBegun K CH CS CW) := ok_begun F_Hearing_begun TH TS Me_Hearing_closed
  have b_Hearing_begun : Binds K _ ["self"] [] := F_Hearing_begun.binds fun _ _ _ _ _ _ us hl => match us, hl with | [_], _ => rfl
  have Me_Hearing_begun : Met l.prog w K mg base CH "begun" 2 ["self"] (spBegun K CH CS CW) := ⟨cl_Hearing, f_Hearing_begun, _, ⟨a_Hearing_begun, i_Hearing_begun, k_Hearing_begun⟩, b_Hearing_begun, O_Hearing_begun⟩
  have O_Hearing_behind : FnOk l.prog w K mg base CX0 2 f_Hearing_behind _ ["self", "places", "mark"] (spBehind K CH CS CW) := ok_behind F_Hearing_behind T TH Me_Hearing_closed
  have b_Hearing_behind : Binds K _ ["self", "places", "mark"] [] := F_Hearing_behind.binds fun _ _ _ _ _ _ us hl => match us, hl with | [_, _, _], _ => rfl
  have Me_Hearing_behind : Met l.prog w K mg base CH "behind" 2 ["self", "places", "mark"] (spBehind K CH CS CW) := ⟨cl_Hearing, f_Hearing_behind, _, ⟨a_Hearing_behind, i_Hearing_behind, k_Hearing_behind⟩, b_Hearing_behind, O_Hearing_behind⟩
  have O_need_hearing : FnOk l.prog w K mg base CX0 3 f_need_hearing _ ["speech", "wall"] (spNeedHe K CH CS CW) := ok_need_hearing F_need_hearing C_need_speech C_need_wall M_Hearing
  have b_need_hearing : Binds K _ ["speech", "wall"] [] := F_need_hearing.binds fun _ _ _ _ _ _ us hl => match us, hl with | [_, _], _ => rfl
  have C_need_hearing : Cal l.prog w K mg base "need_hearing" 3 ["speech", "wall"] [] (spNeedHe K CH CS CW) := cal_of F_need_hearing (PySem.W.mg_of X G a_need_hearing) b_need_hearing O_need_hearing
  have O_need_row : FnOk l.prog w K mg base CX0 2 f_need_row _ ["hearing", "value"] (spNeedRow K CH CS CW) := ok_need_row F_need_row T TH TW_ C_is_listed
  have b_need_row : Binds K _ ["hearing", "value"] [] := F_need_row.binds fun _ _ _ _ _ _ us hl => match us, hl with | [_, _], _ => rfl
  have C_need_row : Cal l.prog w K mg base "need_row" 2 ["hearing", "value"] [] (spNeedRow K CH CS CW) := cal_of F_need_row (PySem.W.mg_of X G a_need_row) b_need_row O_need_row
  have O_known : FnOk l.prog w K mg base CX0 4 f_known _ ["speech", "wall", "row"] (spKnown K CS CW) := ok_known F_known C_need_hearing C_need_row Me_Hearing_begun Me_Hearing_behind
  have C_known : Cal l.prog w K mg base "known" 4 ["speech", "wall", "row"] [] (spKnown K CS CW) := calD_of F_known (PySem.W.mg_of X G a_known) (F_known.binds1 3 1 (by simp) rfl fun _ _ _ _ _ _ _ us its h1 h2 => match us, its, h1, h2 with | [_, _, _], [_], _, _ => ⟨_, rfl, rfl⟩) O_known
  have kE : ∀ F : Hp, SqT K F E_known [] := fun F => .inr ⟨_, #[], en_known, lE_known, rfl, rfl, Nat.zero_le _, .nil⟩
  have C_known0 : Cal l.prog w K mg base "known" 4 ["speech", "wall", "row"] [.ref E_known] (spKnown K CS CW) := calD_of F_known (PySem.W.mg_of X G a_known) (F_known.binds1 2 0 (by simp) rfl fun _ _ _ _ _ _ _ us its h1 h2 => match us, its, h1, h2 with | [_, _], [_], _, _ => ⟨_, rfl, rfl⟩) O_known
  have CB_known : CalB l.prog w K mg base "known" 4 ["speech", "wall", "row"] ["row", "wall", "speech"] (spKnown K CS CW) := ⟨f_known, _, PySem.W.mg_of X G a_known, k_known, FunD.back F_known (by simp) (fun _ _ _ _ _ _ _ ws its h1 h2 => match ws, its, h1, h2 with | [_, _, _], [_], _, _ => ⟨_, rfl, rfl⟩) (by simp), O_known⟩
  have O__law_pen : FnOk l.prog w K mg base CX0 1 f__law_pen _ ["script"] (spPen K) := ok_pen F__law_pen T
  have b__law_pen : Binds K _ ["script"] [] := F__law_pen.binds fun _ _ _ _ _ _ us hl => match us, hl with | [_], _ => rfl
  have C__law_pen : Cal l.prog w K mg base "_law_pen" 1 ["script"] [] (spPen K) := cal_of F__law_pen (PySem.W.mg_of X G a__law_pen) b__law_pen O__law_pen
  have O__law_draw : FnOk l.prog w K mg base CX0 1 f__law_draw _ ["pen", "many"] (spDraw K) := ok_draw F__law_draw T
  have b__law_draw : Binds K _ ["pen", "many"] [] := F__law_draw.binds fun _ _ _ _ _ _ us hl => match us, hl with | [_, _], _ => rfl
  have C__law_draw : Cal l.prog w K mg base "_law_draw" 1 ["pen", "many"] [] (spDraw K) := cal_of F__law_draw (PySem.W.mg_of X G a__law_draw) b__law_draw O__law_draw
  have O__law_pick : FnOk l.prog w K mg base CX0 2 f__law_pick _ ["pen", "some"] (spPick K) := ok_pick F__law_pick T C__law_draw
  have b__law_pick : Binds K _ ["pen", "some"] [] := F__law_pick.binds fun _ _ _ _ _ _ us hl => match us, hl with | [_, _], _ => rfl
  have C__law_pick : Cal l.prog w K mg base "_law_pick" 2 ["pen", "some"] [] (spPick K) := cal_of F__law_pick (PySem.W.mg_of X G a__law_pick) b__law_pick O__law_pick
  have O__law_shuffled : FnOk l.prog w K mg base CX0 2 f__law_shuffled _ ["pen", "some"] (spShuf K) := ok_shuffled F__law_shuffled T C__law_draw
  have b__law_shuffled : Binds K _ ["pen", "some"] [] := F__law_shuffled.binds fun _ _ _ _ _ _ us hl => match us, hl with | [_, _], _ => rfl
  have C__law_shuffled : Cal l.prog w K mg base "_law_shuffled" 2 ["pen", "some"] [] (spShuf K) := cal_of F__law_shuffled (PySem.W.mg_of X G a__law_shuffled) b__law_shuffled O__law_shuffled
  have O__law_arrows : FnOk l.prog w K mg base CX0 3 f__law_arrows _ ["pen", "many", "sounds", "number"] (spArrows K) := ok_arrows F__law_arrows T C__law_draw C__law_pick
  have b__law_arrows : Binds K _ ["pen", "many", "sounds", "number"] [] := F__law_arrows.binds fun _ _ _ _ _ _ us hl => match us, hl with | [_, _, _, _], _ => rfl
  have C__law_arrows : Cal l.prog w K mg base "_law_arrows" 3 ["pen", "many", "sounds", "number"] [] (spArrows K) := cal_of F__law_arrows (PySem.W.mg_of X G a__law_arrows) b__law_arrows O__law_arrows
  have O__law_marks : FnOk l.prog w K mg base CX0 3 f__law_marks _ ["pen", "sounds", "is_wide"] (spLMarks K) := ok_lmarks F__law_marks T C__law_draw C__law_pick C__law_shuffled
  have C__law_marks : Cal l.prog w K mg base "_law_marks" 3 ["pen", "sounds", "is_wide"] [] (spLMarks K) := calD_of F__law_marks (PySem.W.mg_of X G a__law_marks) (F__law_marks.binds1 3 1 (by simp) rfl fun _ _ _ _ _ _ _ us its h1 h2 => match us, its, h1, h2 with | [_, _, _], [_], _, _ => ⟨_, rfl, rfl⟩) O__law_marks
  have C__law_marks0 : Cal l.prog w K mg base "_law_marks" 3 ["pen", "sounds", "is_wide"] [.bl false] (spLMarks K) := calD_of F__law_marks (PySem.W.mg_of X G a__law_marks) (F__law_marks.binds1 2 0 (by simp) rfl fun _ _ _ _ _ _ _ us its h1 h2 => match us, its, h1, h2 with | [_, _], [_], _, _ => ⟨_, rfl, rfl⟩) O__law_marks
  have O__law_plain : FnOk l.prog w K mg base CX0 4 f__law_plain _ ["pen", "many", "number"] (spLPlain K) := ok_lplain F__law_plain T C__law_draw C__law_pick C__law_arrows C__law_marks0
  have b__law_plain : Binds K _ ["pen", "many", "number"] [] := F__law_plain.binds fun _ _ _ _ _ _ us hl => match us, hl with | [_, _, _], _ => rfl
  have C__law_plain : Cal l.prog w K mg base "_law_plain" 4 ["pen", "many", "number"] [] (spLPlain K) := cal_of F__law_plain (PySem.W.mg_of X G a__law_plain) b__law_plain O__law_plain
  have O__law_all_marks : FnOk l.prog w K mg base CX0 1 f__law_all_marks _ ["arrows", "marks"] (spAllMarks K) := ok_all_marks F__law_all_marks T
  have b__law_all_marks : Binds K _ ["arrows", "marks"] [] := F__law_all_marks.binds fun _ _ _ _ _ _ us hl => match us, hl with | [_, _], _ => rfl
  have C__law_all_marks : Cal l.prog w K mg base "_law_all_marks" 1 ["arrows", "marks"] [] (spAllMarks K) := cal_of F__law_all_marks (PySem.W.mg_of X G a__law_all_marks) b__law_all_marks O__law_all_marks
  have O__law_listed : FnOk l.prog w K mg base CX0 1 f__law_listed _ ["arrows", "starts", "marks", "steps", "length"] (spTalks K) := ok_talks F__law_listed T
  have b__law_listed : Binds K _ ["arrows", "starts", "marks", "steps", "length"] [] := F__law_listed.binds fun _ _ _ _ _ _ us hl => match us, hl with | [_, _, _, _, _], _ => rfl
  have C__law_listed : Cal l.prog w K mg base "_law_listed" 1 ["arrows", "starts", "marks", "steps", "length"] [] (spTalks K) := cal_of F__law_listed (PySem.W.mg_of X G a__law_listed) b__law_listed O__law_listed
  have O__law_one_right : FnOk l.prog w K mg base CX0 6 f__law_one_right _ ["pen"] (spOne5 K) := ok_one5 F__law_one_right T C__law_draw C__law_plain C__law_marks C__law_all_marks C__law_listed M_Speech M_Wall C_known C_known0 CB_known kE
  have b__law_one_right : Binds K _ ["pen"] [] := F__law_one_right.binds fun _ _ _ _ _ _ us hl => match us, hl with | [_], _ => rfl
  have C__law_one_right : Cal l.prog w K mg base "_law_one_right" 6 ["pen"] [] (spOne5 K) := cal_of F__law_one_right (PySem.W.mg_of X G a__law_one_right) b__law_one_right O__law_one_right
  exact ok_law5 F_law T C__law_pen C__law_one_right
theorem walk {l : PySem.W.OpenLaw} {q : Program} {loose : List Str} {XP : (Str → Option Value) → Heap → Prop} {YP : World → Heap → Prop} {d : DefRec} {K : Params → PySem.W.Frag} (hn : l.most = some 63) (hdf : d.params.defaults = [])
    (hY : ∀ (w : World) (h : Heap), YP w h → (K w.params).In h)
    (F : ∀ (w : World) (mg : Str → Option Value) (fa : Addr) (h : Heap), (K w.params).In h → h.Ns mainGlobals mg → mg d.name = some (.ref fa) →
      ∃ fd : FuncData, (∀ (s : Shared) (u : Value), BindsTo s fd ⟨[u], []⟩ [("script", u)]) ∧ ∀ base : Heap, (K w.params).In base → base.Ns mainGlobals mg → FnOk l.prog w (K w.params) mg base CX0 7 fa fd ["script"] (spLaw (K w.params))) :
    PySem.W.WalkO q loose XP YP l.row.toRowW d [] (fun f vs => PySem.call f vs) :=
  head_of (n := 63) (k := 7) (x := "script") (sp := fun w => spLaw (K w.params)) hn (by decide) hdf ⟨⟨rfl, by decide, by decide⟩, rfl⟩ hY F (fun _ _ a ns hl _ hS => ⟨a, ns, rfl, hS, hl, fun _ => rfl⟩)
end TW
set_option Elab.async false
set_option maxRecDepth 100000
open PySem PySem.W PyProof.Rows
set_option maxRecDepth 100000 in
set_option maxHeartbeats 0 in
theorem PySem.Challenge.cw_throughwalls_k05_whole_known_by_listing_holds : PySem.Challenge.rw_throughwalls_k05_whole_known_by_listing.Holds := by
  w_on; o_law; k_head; (case hw => w_witness2)
  k_fill
  refine TW.walk (l := PySem.Challenge.rw_throughwalls_k05_whole_known_by_listing) rfl rfl (fun w h Y => PySem.W.kIn_of Y) ?F
  case F =>
    intro w mg fa h KX G hmg
    refine' TW.all_mk KX G hmg ?a_Speech ?pg_Speech ?hd_Speech ?po_Speech ?sa_Speech ?mk_Speech ?kc_Speech ?n_Speech_arrows ?n_Speech_starts ?n_Speech_places ?n_Speech_sounds ?n_Speech_own_from ?ha_Speech ?hm_Speech ?a_Wall ?pg_Wall ?hd_Wall ?po_Wall ?sa_Wall ?mk_Wall ?kc_Wall ?n_Wall_own_marks ?n_Wall_sounds ?n_Wall_all_marks ?ha_Wall ?hm_Wall ?a_Hearing ?pg_Hearing ?hd_Hearing ?po_Hearing ?sa_Hearing ?mk_Hearing ?kc_Hearing ?n_Hearing_speech ?n_Hearing_wall ?n_Hearing_unheard ?n_Hearing_led ?hn_class ?ht_class ?a_is_integer ?l_is_integer ?c_is_integer ?k_is_integer ?a_is_within ?l_is_within ?c_is_within ?k_is_within ?a_is_listed ?l_is_listed ?c_is_listed ?k_is_listed ?a_is_sound ?l_is_sound ?c_is_sound ?k_is_sound ?a_ascends ?l_ascends ?c_ascends ?k_ascends ?a_is_mark ?l_is_mark ?c_is_mark ?k_is_mark ?a_is_heard ?l_is_heard ?c_is_heard ?k_is_heard ?a_is_lot ?l_is_lot ?c_is_lot ?k_is_lot ?a_is_arrow ?l_is_arrow ?c_is_arrow ?k_is_arrow ?a_Speech___init__ ?i_Speech___init__ ?l_Speech___init__ ?c_Speech___init__ ?k_Speech___init__ ?a_are_marks ?l_are_marks ?c_are_marks ?k_are_marks ?a_Wall___init__ ?i_Wall___init__ ?l_Wall___init__ ?c_Wall___init__ ?k_Wall___init__ ?a_need_speech ?l_need_speech ?c_need_speech ?k_need_speech ?lT_need_speech ?a_need_wall ?l_need_wall ?c_need_wall ?k_need_wall ?a_Hearing___init__ ?i_Hearing___init__ ?l_Hearing___init__ ?c_Hearing___init__ ?k_Hearing___init__ ?a_Hearing_closed ?i_Hearing_closed ?l_Hearing_closed ?c_Hearing_closed ?k_Hearing_closed ?a_Hearing_begun ?i_Hearing_begun ?l_Hearing_begun ?c_Hearing_begun ?k_Hearing_begun ?a_Hearing_behind ?i_Hearing_behind ?l_Hearing_behind ?c_Hearing_behind ?k_Hearing_behind ?a_need_hearing ?l_need_hearing ?c_need_hearing ?k_need_hearing ?a_need_row ?l_need_row ?c_need_row ?k_need_row ?a_known ?l_known ?c_known ?k_known ?lT_known ?a__law_pen ?l__law_pen ?c__law_pen ?k__law_pen ?a__law_draw ?l__law_draw ?c__law_draw ?k__law_draw ?a__law_pick ?l__law_pick ?c__law_pick ?k__law_pick ?a__law_shuffled ?l__law_shuffled ?c__law_shuffled ?k__law_shuffled ?a__law_arrows ?l__law_arrows ?c__law_arrows ?k__law_arrows ?a__law_marks ?l__law_marks ?c__law_marks ?k__law_marks ?lT__law_marks ?a__law_plain ?l__law_plain ?c__law_plain ?k__law_plain ?a__law_all_marks ?l__law_all_marks ?c__law_all_marks ?k__law_all_marks ?a__law_listed ?l__law_listed ?c__law_listed ?k__law_listed ?a__law_one_right ?l__law_one_right ?c__law_one_right ?k__law_one_right ?a_law ?l_law ?c_law ?k_law ?lE_known ?z_isinstance ?z_len ?z_all ?z_any ?z_sorted ?z_zip ?z_enumerate ?z_range ?z_abs ?z_set ?z_tuple ?z_list ?z_dict ?z_int ?z_bool ?z_str ?z_repr ?z_SIGNS ?z_MARK_SIGNS ?z_MOST_SIGNS ?z_MOST_PLACE ?z_MOST_ARROWS ?z_ARROW ?z_MOST_MARKS
    (case a_Speech => k_is); (case pg_Speech => k_is); (case hd_Speech => k_is); (case po_Speech => k_is); (case sa_Speech => k_is); (case mk_Speech => k_is)
    (case kc_Speech => k_is); (case n_Speech_arrows => k_is); (case n_Speech_starts => k_is); (case n_Speech_places => k_is); (case n_Speech_sounds => k_is); (case n_Speech_own_from => k_is)
    (case ha_Speech => k_is); (case hm_Speech => k_is); (case a_Wall => k_is); (case pg_Wall => k_is); (case hd_Wall => k_is); (case po_Wall => k_is)
    (case sa_Wall => k_is); (case mk_Wall => k_is); (case kc_Wall => k_is); (case n_Wall_own_marks => k_is); (case n_Wall_sounds => k_is); (case n_Wall_all_marks => k_is)
    (case ha_Wall => k_is); (case hm_Wall => k_is); (case a_Hearing => k_is); (case pg_Hearing => k_is); (case hd_Hearing => k_is); (case po_Hearing => k_is)
    (case sa_Hearing => k_is); (case mk_Hearing => k_is); (case kc_Hearing => k_is); (case n_Hearing_speech => k_is); (case n_Hearing_wall => k_is); (case n_Hearing_unheard => k_is)
    (case n_Hearing_led => k_is); (case hn_class => k_is); (case ht_class => k_is); (case a_is_integer => k_is); (case l_is_integer => k_is); (case c_is_integer => k_is)
    (case k_is_integer => k_is); (case a_is_within => k_is); (case l_is_within => k_is); (case c_is_within => k_is); (case k_is_within => k_is); (case a_is_listed => k_is)
    (case l_is_listed => k_is); (case c_is_listed => k_is); (case k_is_listed => k_is); (case a_is_sound => k_is); (case l_is_sound => k_is); (case c_is_sound => k_is)
    (case k_is_sound => k_is); (case a_ascends => k_is); (case l_ascends => k_is); (case c_ascends => k_is); (case k_ascends => k_is); (case a_is_mark => k_is)
    (case l_is_mark => k_is); (case c_is_mark => k_is); (case k_is_mark => k_is); (case a_is_heard => k_is); (case l_is_heard => k_is); (case c_is_heard => k_is)
    (case k_is_heard => k_is); (case a_is_lot => k_is); (case l_is_lot => k_is); (case c_is_lot => k_is); (case k_is_lot => k_is); (case a_is_arrow => k_is)
    (case l_is_arrow => k_is); (case c_is_arrow => k_is); (case k_is_arrow => k_is); (case a_Speech___init__ => k_is); (case i_Speech___init__ => k_is); (case l_Speech___init__ => k_is)
    (case c_Speech___init__ => k_is); (case k_Speech___init__ => k_is); (case a_are_marks => k_is); (case l_are_marks => k_is); (case c_are_marks => k_is); (case k_are_marks => k_is)
    (case a_Wall___init__ => k_is); (case i_Wall___init__ => k_is); (case l_Wall___init__ => k_is); (case c_Wall___init__ => k_is); (case k_Wall___init__ => k_is); (case a_need_speech => k_is)
    (case l_need_speech => k_is); (case c_need_speech => k_is); (case k_need_speech => k_is); (case lT_need_speech => k_is); (case a_need_wall => k_is); (case l_need_wall => k_is)
    (case c_need_wall => k_is); (case k_need_wall => k_is); (case a_Hearing___init__ => k_is); (case i_Hearing___init__ => k_is); (case l_Hearing___init__ => k_is); (case c_Hearing___init__ => k_is)
    (case k_Hearing___init__ => k_is); (case a_Hearing_closed => k_is); (case i_Hearing_closed => k_is); (case l_Hearing_closed => k_is); (case c_Hearing_closed => k_is); (case k_Hearing_closed => k_is)
    (case a_Hearing_begun => k_is); (case i_Hearing_begun => k_is); (case l_Hearing_begun => k_is); (case c_Hearing_begun => k_is); (case k_Hearing_begun => k_is); (case a_Hearing_behind => k_is)
    (case i_Hearing_behind => k_is); (case l_Hearing_behind => k_is); (case c_Hearing_behind => k_is); (case k_Hearing_behind => k_is); (case a_need_hearing => k_is); (case l_need_hearing => k_is)
    (case c_need_hearing => k_is); (case k_need_hearing => k_is); (case a_need_row => k_is); (case l_need_row => k_is); (case c_need_row => k_is); (case k_need_row => k_is)
    (case a_known => k_is); (case l_known => k_is); (case c_known => k_is); (case k_known => k_is); (case lT_known => k_is); (case a__law_pen => k_is)
    (case l__law_pen => k_is); (case c__law_pen => k_is); (case k__law_pen => k_is); (case a__law_draw => k_is); (case l__law_draw => k_is); (case c__law_draw => k_is)
    (case k__law_draw => k_is); (case a__law_pick => k_is); (case l__law_pick => k_is); (case c__law_pick => k_is); (case k__law_pick => k_is); (case a__law_shuffled => k_is)
    (case l__law_shuffled => k_is); (case c__law_shuffled => k_is); (case k__law_shuffled => k_is); (case a__law_arrows => k_is); (case l__law_arrows => k_is); (case c__law_arrows => k_is)
    (case k__law_arrows => k_is); (case a__law_marks => k_is); (case l__law_marks => k_is); (case c__law_marks => k_is); (case k__law_marks => k_is); (case lT__law_marks => k_is)
    (case a__law_plain => k_is); (case l__law_plain => k_is); (case c__law_plain => k_is); (case k__law_plain => k_is); (case a__law_all_marks => k_is); (case l__law_all_marks => k_is)
    (case c__law_all_marks => k_is); (case k__law_all_marks => k_is); (case a__law_listed => k_is); (case l__law_listed => k_is); (case c__law_listed => k_is); (case k__law_listed => k_is)
    (case a__law_one_right => k_is); (case l__law_one_right => k_is); (case c__law_one_right => k_is); (case k__law_one_right => k_is); (case a_law => k_is); (case l_law => k_is)
    (case c_law => k_is); (case k_law => k_is); (case lE_known => k_is); (case z_isinstance => k_is); (case z_len => k_is); (case z_all => k_is)
    (case z_any => k_is); (case z_sorted => k_is); (case z_zip => k_is); (case z_enumerate => k_is); (case z_range => k_is); (case z_abs => k_is)
    (case z_set => k_is); (case z_tuple => k_is); (case z_list => k_is); (case z_dict => k_is); (case z_int => k_is); (case z_bool => k_is)
    (case z_str => k_is); (case z_repr => k_is); (case z_SIGNS => k_is); (case z_MARK_SIGNS => k_is); (case z_MOST_SIGNS => k_is); (case z_MOST_PLACE => k_is)
    (case z_MOST_ARROWS => k_is); (case z_ARROW => k_is); (case z_MOST_MARKS => k_is)
#print axioms PySem.Challenge.cw_throughwalls_k05_whole_known_by_listing_holds
