import PyProof.Rows.All
import Wide.All
import OpenK.AllK
import Wide.FinOn
import KE.SortData
import HandS.ForMost
import HandS.Set
import HandS.SetFor
import HandS.SetKeys
import HandS.SortInts
import HandS.DictComp
import HandS.Walk
import HandS.Evl
import HandS.Deep
import HandS.IsInst
import HandS.Zip
import HandS.Style
import HandS.Star
import HandS.TupAny
import HandS.Defaults
import HandS.Conv
import HandS.More
import PySem.Challenge.RW_throughwalls_k06_whole_knowing_goes_mark
import KE.KDictZip
import KE.KItemsList
import HandS.ListItems
set_option Elab.async false
set_option linter.all false
set_option maxRecDepth 100000
set_option maxHeartbeats 4000000
/-! sets of keys (ints and texts) made of a list or a tuple; sorted of such a set -/
namespace TW
open PySem PySem.Spec PyProof.Rows L2

/-! ### a set of keys that can be walked -/
def kOf (e : Int × Value) : Key := match e.2 with
  | .int i _ => .inl i
  | .str x _ => .inr x
  | _ => .inl 0
theorem kOf_is {k : Key} {h : Int} {u : Value} (q : keyIs k u = true) : kOf (h, u) = k := by
  rcases keyIs_shape q with ⟨i, t, rfl, rfl⟩ | ⟨x, t, rfl, rfl⟩ <;> rfl
theorem is_kOf {k k' : Key} {u : Value} (q : keyIs k u = true) : keyIs k' u = true ↔ k = k' := by
  rcases keyIs_shape q with ⟨i, t, rfl, rfl⟩ | ⟨x, t, rfl, rfl⟩
  · constructor
    · intro z
      rcases keyIs_shape z with ⟨j, u, rfl, e⟩ | ⟨y, u, rfl, e⟩
      · injection e with e1 _; rw [e1]
      · exact nomatch e
    · rintro rfl; exact q
  · constructor
    · intro z
      rcases keyIs_shape z with ⟨j, u, rfl, e⟩ | ⟨y, u, rfl, e⟩
      · exact nomatch e
      · injection e with e1 _; rw [e1]
    · rintro rfl; exact q
def OkE (w : World) (e : Int × Value) : Prop := keyIs (kOf e) e.2 = true ∧ e.1 = keyH w (kOf e)
def KS (w : World) (h : Heap) (a : Addr) (ks : List Key) (n : Nat) : Prop :=
  ∃ o es ep t, (h.get? a = some o ∧ o.ExactSet ∧ o.data = .set es ep t) ∧ ((∀ e ∈ es.toList, OkE w e) ∧ (es.toList.map kOf).Nodup ∧ ∀ k, k ∈ ks ↔ k ∈ es.toList.map kOf) ∧
    (es.size < scanBound ∧ t.fits es.size = true ∧ es.size = n) ∧ Ris t.place.toList ∧ (w.params.followText "set-order" = true ∨ t.led = true)
section
variable {P : Program} {w : World} {h h' : Heap} {a : Addr} {ks : List Key} {n : Nat}
theorem KS.at (R : KS w h a ks n) (k : ∀ o, h.get? a = some o → h'.get? a = some o) : KS w h' a ks n := by
  obtain ⟨o, es, ep, t, ⟨ho, r1⟩, r⟩ := R
  exact ⟨o, es, ep, t, ⟨k o ho, r1⟩, r⟩
theorem KS.congr {ks' : List Key} (R : KS w h a ks n) (e : ∀ k, k ∈ ks' ↔ k ∈ ks) : KS w h a ks' n := by
  obtain ⟨o, es, ep, t, r1, ⟨g, nd, m⟩, r⟩ := R
  exact ⟨o, es, ep, t, r1, ⟨g, nd, fun k => (e k).trans (m k)⟩, r⟩
theorem okE_elems {l : List (Int × Value)} (g : ∀ e ∈ l, OkE w e) : ElemsOf (mixKind P w) l := fun e he => by
  obtain ⟨h1, h2⟩ := g e he
  refine ⟨⟨kOf e, h1, h2⟩, ?_⟩
  rcases keyIs_shape h1 with ⟨i, t, _, q⟩ | ⟨x, t, _, q⟩ <;> rw [q] <;> rfl
theorem okE_mem {l : List (Int × Value)} (g : ∀ e ∈ l, OkE w e) (k : Key) : k ∈ l.map kOf ↔ ∃ e ∈ l, (mixKind P w).is k e.2 = true := by
  rw [List.mem_map]
  constructor
  · rintro ⟨e, he, q⟩; exact ⟨e, he, (is_kOf (g e he).1).2 q⟩
  · rintro ⟨e, he, q⟩; exact ⟨e, he, (is_kOf (g e he).1).1 q⟩
end
section
variable {P : Program} {w : World} {A : Around} {E : Value → Shared → Prop} {s : Shared} {a : Addr} {ks : List Key} {n : Nat}
theorem ks_tail {g : Bool → Sem Unit} (hg : ∀ (b : Bool) (z : Shared) (R' : Unit → Shared → Prop), R' () z → wpAny (model P w) A (g b) R' E z)
    {o : Obj} {es : Array (Int × Value)} {ep : Nat} {t : SetTable} (ho : s.heap.get? a = some o) (hex : o.ExactSet) (hd : o.data = .set es ep t)
    {es1 : Array (Int × Value)} {t2 : SetTable} {ks' : List Key} (gm : (∀ e ∈ es1.toList, OkE w e) ∧ (es1.toList.map kOf).Nodup ∧ ∀ k, k ∈ ks' ↔ k ∈ es1.toList.map kOf)
    (hb1 : es1.size < scanBound) (hf2 : t2.fits es1.size = true) (hr : Ris t2.place.toList) (hl : w.params.followText "set-order" = true ∨ t2.led = true) {dum : Bool} {R : Option Bool → Shared → Prop}
    (hR : ∀ h', Heap.SameBut a s.heap h' → KS w h' a ks' es1.size → R (some true) { s with heap := h' }) :
    wpAny (model P w) A (do
        storeSet a es1 t2
        if (!dum && t2.tooFull) = true then do
            g (relayAll t2 es1 (SetTable.grown es1.size)).2.2
            storeSet a (relayAll t2 es1 (SetTable.grown es1.size)).1 (relayAll t2 es1 (SetTable.grown es1.size)).2.1
            pure (some true)
          else pure (some true)) R E s := by
  refine wpAny_bind (wpAny_storeSet_of ho hd ?_ (fits_of_scanBound hb1))
  have u1 := store_at (es' := es1) (t' := t2) ho hd
  have c1 := Heap.SameBut.update s.heap a (Obj.putSet es1 t2)
  split
  · have pm := relayAll_perm t2 es1 (SetTable.grown es1.size)
    have f3 := relayAll_fits t2 es1 (SetTable.grown es1.size)
    have r3 := relayAll_ris t2 es1 (SetTable.grown es1.size)
    have l3 := relayAll_led t2 es1 (SetTable.grown es1.size)
    generalize relayAll t2 es1 (SetTable.grown es1.size) = Z at pm f3 r3 l3 ⊢
    obtain ⟨es2, t3, gv⟩ := Z
    dsimp only at pm f3 r3 l3 ⊢
    have hsz : es2.size = es1.size := by rw [← Array.length_toList, pm.length_eq, Array.length_toList]
    have hb2 : es2.size < scanBound := hsz ▸ hb1
    refine wpAny_bind (hg _ _ _ (wpAny_bind (wpAny_storeSet_of u1 rfl (wpAny_pure (hR _ (c1.trans (Heap.SameBut.update _ a _)) ?_)) (fits_of_scanBound hb2))))
    have u2 := store_at (es' := es2) (t' := t3) u1 rfl
    exact ⟨_, es2, _, t3, ⟨u2, hex, rfl⟩, ⟨fun e he => gm.1 e (pm.mem_iff.mp he), (pm.map kOf).nodup_iff.mpr gm.2.1, fun k => (gm.2.2 k).trans (pm.map kOf).mem_iff.symm⟩, ⟨hb2, f3, hsz⟩, r3, hl.imp id fun z => by rw [l3]; exact z⟩
  · exact wpAny_pure (hR _ c1 ⟨_, es1, _, t2, ⟨u1, hex, rfl⟩, gm, ⟨hb1, hf2, rfl⟩, hr, hl⟩)

theorem ks_addH {k : Key} {u : Value} {Q : Bool → Shared → Prop} (hku : keyIs k u = true) (R : KS w s.heap a ks n) (room : n + 1 < scanBound)
    (hQ : ∀ b h' n', Heap.SameBut a s.heap h' → n' ≤ n + 1 → KS w h' a (k :: ks) n' → Q b { s with heap := h' }) :
    wpAny (model P w) A (setAddHashed a u ((mixKind P w).hash k)) Q E s := by
  obtain ⟨o, es, ep, t, ⟨ho, hex, hd⟩, ⟨g, nd, hm⟩, ⟨hb, hf, hn⟩, hr, hl⟩ := R
  have hkey : (mixKind P w).is k u = true := hku
  have hsc : u.scannable = true := by rcases keyIs_shape hku with ⟨i, t, _, q⟩ | ⟨x, t, _, q⟩ <;> rw [q] <;> rfl
  have hel : ElemsOf (mixKind P w) es.toList := okE_elems g
  unfold setAddHashed setAddHashedIn
  refine wpAny_holding (wpAny_bind (wpAny_setState_of ho hd hf ?_))
  dsimp only
  rw [byScan_of hsc hb hel]
  simp only [↓reduceIte]
  unfold setAddByScan
  refine wpAny_bind (wpAny_bind (wpAny_rule (wpAny_bind (wpAny_setScan_of hkey ho hd hf hel ?_))))
  cases hfi : List.findIdx? (fun e => (mixKind P w).is k e.2) es.toList with
  | some j =>
    dsimp only
    obtain ⟨hj, pj, _⟩ := List.findIdx?_eq_some_iff_getElem.mp hfi
    have hin : k ∈ es.toList.map kOf := (okE_mem (P := P) g k).2 ⟨es.toList[j], List.getElem_mem hj, pj⟩
    refine wpAny_pure (wpAny_pure (hQ _ s.heap n (Heap.SameBut.refl a s.heap) (Nat.le_succ n) ⟨o, es, ep, t, ⟨ho, hex, hd⟩, ⟨g, nd, fun i => ?_⟩, ⟨hb, hf, hn⟩, hr, hl⟩))
    rw [List.mem_cons, hm i]
    exact ⟨fun z => z.elim (fun e => e ▸ hin) id, .inr⟩
  | none =>
    dsimp only
    have hnk : k ∉ es.toList.map kOf := fun z => by
      obtain ⟨e, he, q⟩ := (okE_mem (P := P) g k).1 z
      have c := List.findIdx?_eq_none_iff.mp hfi e he
      rw [q] at c; cases c
    have hgw : ∀ (b : Bool) {z : Shared} {R' : Unit → Shared → Prop}, R' () z → wpAny (model P w) A (match b with | true => rule "set.scan.the-table-gave-way" | false => pure ()) R' E z :=
      fun b z R' q => by cases b <;> first | exact wpAny_pure q | exact wpAny_rule q
    have pm := layNew_perm t es ((mixKind P w).hash k) u
    have f1 := layNew_fits t es ((mixKind P w).hash k) u
    have r1 := layNew_ris t es ((mixKind P w).hash k) u hr
    have l1 := layNew_led t es ((mixKind P w).hash k) u
    generalize layNew t es ((mixKind P w).hash k) u = Z at pm f1 r1 l1 ⊢
    obtain ⟨es1, t1, dum, gv⟩ := Z
    dsimp only at pm f1 r1 l1 ⊢
    rw [Array.toList_push] at pm
    have pc : es1.toList.Perm (((mixKind P w).hash k, u) :: es.toList) := pm.trans (List.perm_append_singleton _ _)
    have pk : (es1.toList.map kOf).Perm (k :: es.toList.map kOf) := by
      have z := pc.map kOf
      rw [List.map_cons, kOf_is hku] at z
      exact z
    have gm : (∀ e ∈ es1.toList, OkE w e) ∧ (es1.toList.map kOf).Nodup ∧ ∀ i, i ∈ k :: ks ↔ i ∈ es1.toList.map kOf := by
      refine ⟨fun e he => ?_, pk.nodup_iff.mpr (List.nodup_cons.mpr ⟨hnk, nd⟩), fun i => by rw [pk.mem_iff, List.mem_cons, List.mem_cons, hm i]⟩
      rcases List.mem_cons.mp (pc.mem_iff.mp he) with z | z
      · rw [z]
        refine ⟨?_, ?_⟩
        · rw [kOf_is hku]; exact hku
        · rw [kOf_is hku]; rfl
      · exact g e z
    have hsz : es1.size = n + 1 := by rw [← Array.length_toList, pc.length_eq, List.length_cons, Array.length_toList, hn]
    have hb1 : es1.size < scanBound := hsz ▸ room
    have hled : w.params.followText "set-order" = true ∨ t1.led = true := hl.imp id fun z => by rw [l1]; exact z
    have fin : ∀ h', Heap.SameBut a s.heap h' → KS w h' a (k :: ks) es1.size → Q true { s with heap := h' } := fun h' sb r => hQ true h' _ sb (by rw [hsz]; exact Nat.le_refl _) r
    refine wpAny_bind (hgw _ ?_)
    split
    · refine wpAny_bind ?_
      rw [hashByValue_scannable 8 hsc]
      refine wpAny_pure (ks_tail (fun b z R' q => by cases b <;> first | exact wpAny_pure q | exact wpAny_rule q) ho hex hd gm hb1 ?_ ?_ ?_ ?_)
      · first | (split <;> first | exact f1 | exact SetTable.fits_plain_off f1) | exact f1
      · first | (split <;> exact r1) | exact r1
      · first | (split <;> exact hled) | exact hled
      · intro h' sb r; dsimp only; exact wpAny_pure (fin h' sb r)
    · refine wpAny_bind (wpAny_pure ?_)
      simp only [↓reduceIte]
      refine ks_tail (fun b z R' q => by cases b <;> first | exact wpAny_pure q | exact wpAny_rule q) ho hex hd gm hb1 f1 r1 hled ?_
      intro h' sb r; dsimp only; exact wpAny_pure (fin h' sb r)
end
end TW
set_option Elab.async false
set_option linter.all false
set_option maxRecDepth 100000
set_option maxHeartbeats 8000000
namespace TW
open PySem PySem.Spec PyProof.Rows L2

theorem nin2 {a b c : Addr} (h1 : a ≠ b) (h2 : a ≠ c) : a ∉ [b, c] := by
  intro h
  rcases List.mem_cons.mp h with z | z
  · exact h1 z
  · exact h2 (List.mem_singleton.mp z)
section
variable {P : Program} {w : World} {A : Around} {E : Value → Shared → Prop} {s : Shared}
abbrev emptyS (w : World) : Obj := { cls := .type "set", dict := none, data := .set #[] 0 (.fresh 0 0 (!w.params.followText "set-order")) }
theorem ks_new {h : Heap} {a : Addr} (ho : h.get? a = some (emptyS w)) : KS w h a [] 0 :=
  ⟨_, #[], 0, _, ⟨ho, ⟨rfl, rfl, rfl⟩, rfl⟩, ⟨fun e he => by simp at he, by simp, fun k => by simp⟩, ⟨by decide, by rfl, rfl⟩, List.Pairwise.nil, by
    show _ ∨ (!w.params.followText "set-order") = true
    cases w.params.followText "set-order" <;> simp⟩
/-- the turns of set.update -/
theorem ks_update {I : Addr} {fp wr : List Addr} {G : Array GenState → Array GenState → Prop} {n : Nat} {Pv : Nat → Value → Prop} {St : Nat → Shared → Prop} {R : Result → Shared → Prop}
    (W : WalksS P w A.in1 I fp wr G n Pv St) (S : Addr) (hSf : S ∉ fp) (ks : List Key) (hn : n = ks.length) (hb : ks.length + 1 < scanBound) (hval : ∀ i v, Pv i v → ∃ k, ks[i]? = some k ∧ keyIs k v = true) :
    ∀ (m i : Nat) (s : Shared), n - i = m → i ≤ n → St i s → (∃ c, c ≤ i ∧ KS w s.heap S (ks.take i) c) →
      (∀ s' c, Moved (S :: wr) G s s' → c ≤ n → KS w s'.heap S ks c → R (.ok (.ret .none)) s') → codeAny (model P w) A (.builtin "set.update.loop" ⟨[.ref S, .ref I], []⟩) R s := by
  have nw : S ∉ wr := fun h => hSf (W.sub _ h)
  have sb : ∀ b ∈ wr, b ∈ S :: wr := fun b hb => List.mem_cons_of_mem _ hb
  intro m
  induction m with
  | zero =>
    intro i s hm hi hst ⟨c, hc, hS⟩ hR
    obtain rfl : i = n := by omega
    refine codeAny_builtin F.entry_set_update_loop ?_
    rw [Around.under_plainId F.plain_set_update_loop _]
    show wpAny _ A.in1 (pyNext (.ref I) >>= _) _ _ s
    refine wpAny_bind (W.done s _ _ hst fun s' mv => ?_)
    rw [List.take_of_length_le (by omega)] at hS
    exact wpAny_pure (hR s' c (mv.mono sb) hc (hS.at fun o e => mv.heap S o nw e))
  | succ m ih =>
    intro i s hm hi hst ⟨c, hc, hS⟩ hR
    have lt : i < n := by omega
    refine codeAny_builtin F.entry_set_update_loop ?_
    rw [Around.under_plainId F.plain_set_update_loop _]
    show wpAny _ A.in1 (pyNext (.ref I) >>= _) _ _ s
    refine wpAny_bind (W.item i s _ _ lt hst fun v s' hP st' mv => ?_)
    obtain ⟨k, hk, hv⟩ := hval i v hP
    have S1 : KS w s'.heap S (ks.take i) c := hS.at fun o e => mv.heap S o nw e
    show wpAny _ A.in1 (holding [v] (setAdd S v) >>= _) _ _ s'
    refine wpAny_bind (wpAny_holding ?_)
    unfold setAdd
    refine wpAny_holding (wpAny_bind ((mixKind P w).pyHash (k := k) hv ?_))
    refine ks_addH hv S1 (by omega) fun b h' n' sbt hn' S2 => ?_
    have S3 : KS w h' S (ks.take (i + 1)) n' := S2.congr fun j => by
      rw [List.take_add_one, hk]
      simp [List.mem_append, or_comm]
    refine wpAny_pure ⟨plainId_quiet F.plain_set_update_loop _, ih (i + 1) _ (by omega) lt (W.frame _ s' _ _ st' (Nat.le_succ _) fun b hb o e => ?_) ⟨n', by omega, S3⟩ fun s2 c2 mv2 hc2 hS2 => ?_⟩
    · rw [sbt.2 b (fun h : b = S => hSf (h ▸ hb))]; exact e
    · refine hR s2 c2 (Moved.trans W.gtrans ((mv.mono sb).then_heap (Nat.le_succ _) fun b o hb e => ?_) mv2) hc2 hS2
      rw [sbt.2 b (fun h : b = S => hb (h ▸ List.mem_cons_self))]; exact e

theorem ks_code1 (a : Value) {Q₁ : Value → Shared → Prop} (h : Q₁ (.ref s.heap.objs.size) { s with heap := s.heap.push (emptyS w) }) :
    codeAny (model P w) A (.call (.builtin "set.__new__") ⟨[.type "set", a], []⟩) (wants Q₁ E) s := code_set_led1 a h

/-- the values are these keys -/
def KeysAre (items : Array Value) (ks : List Key) : Prop := items.size = ks.length ∧ ∀ (i : Nat) (v : Value), items[i]? = some v → ∃ k, ks[i]? = some k ∧ keyIs k v = true

set_option maxHeartbeats 8000000 in
theorem call_set1 {a : Value} {Q : Value → Shared → Prop}
    (h : wpAny (model P w) A.in1.in1 (Builtin.«set.__init__» ⟨[.ref s.heap.objs.size, a], []⟩) (fun fin z => fin = .done (.ret .none) ∧ Q (.ref s.heap.objs.size) z) (fun _ _ => False) { s with heap := s.heap.push (emptyS w) }) :
    wpAny (model P w) A (call (.type "set") [a]) Q E s := by
  obtain ⟨c, tl, hmro⟩ := F.called_set.mro
  have x1 := F.called_set.made
  have x2 := F.called_set.sub
  refine wpAny_call (codeAny_of_tree ?_)
  show wpAny _ _ (callAny (.type "set") _) _ _ _
  refine wpAny_pure ⟨Code.quiet_builtin _ (by decide +kernel), codeAny_builtin F.entry_type_call ?_⟩
  rw [Around.under_plain (weight_type_call_type "set" [a] []) rfl]
  have x3 := F.called_set.notType
  have x4 := F.called_set.canCreate
  have x5 := F.typeCall_set_1 a
  repeat (any_goals (first | assumption | wp_step))
  refine codeAny_mono (ks_code1 a (E := E) (Q₁ := fun obj z => obj = .ref s.heap.objs.size ∧ z = { s with heap := s.heap.push (emptyS w) }) ⟨rfl, rfl⟩) fun r z hr => ?_
  cases r with
  | error e => exact hr
  | ok fl =>
    cases fl with
    | ret obj =>
      obtain ⟨rfl, rfl⟩ := hr
      have hT : Shared.TypeIs { s with heap := s.heap.push (emptyS w) } (.ref s.heap.objs.size) "set" := ⟨_, Heap.get?_push_size _ rfl, rfl⟩
      have x6 := F.called_set.init.lookup
      have x7 := F.called_set.init.bind (.ref s.heap.objs.size)
      repeat (any_goals (first | assumption | wp_step))
      refine codeAny_mono (codeAny_call_builtin (R := wants (fun r z => r = .none ∧ Q (.ref s.heap.objs.size) z) E)
        F.called_set.init.plain F.entry_set_init (check_set_init_1 hT (wpAny_mono h (fun fin z hz => ?_) fun _ _ z => False.elim z))) fun r₂ s₂ hr₂ => ?_
      · obtain ⟨rfl, hz⟩ := hz
        exact ⟨rfl, hz⟩
      · cases r₂ with
        | error e => exact hr₂
        | ok fl₂ =>
          cases fl₂ with
          | ret r =>
            obtain ⟨rfl, hz⟩ := hr₂
            repeat (any_goals (first | assumption | wp_step))
          | _ => exact hr₂.elim
    | _ => exact hr.elim
theorem upd_seq {T : String} {S l : Addr} {Q : Unit → Shared → Prop} (hT : s.TypeIs (.ref l) T) (h1 : isSubtype (.type T) (.type "set") = pure false) (h2 : isSubtype (.type T) (.type "frozenset") = pure false) (h3 : (Value.type T == Value.type "dict") = false)
    (h : wpAny (model P w) A (pyIter (.ref l)) (fun it z => wpAny (model P w) A (runValue (.builtin "set.update.loop" ⟨[.ref S, it], []⟩)) (fun _ z => Q () z) E z) E s) :
    wpAny (model P w) A (Builtin.Frozenset.updateFrom "set.__init__" S (.ref l)) Q E s := by
  unfold Builtin.Frozenset.updateFrom
  generalize hPI : pyIter = PI
  generalize hRV : runValue = RV
  wp_walk
  subst hPI
  subst hRV
  exact wpAny_mono h (fun it z hz => wpAny_bind (wpAny_mono hz (fun _ z hq => wpAny_pure hq) fun _ _ e => e)) fun _ _ e => e
theorem set_init {S : Addr} {a : Value} {Q : Fin → Shared → Prop} (hS : s.heap.get? S = some (emptyS w))
    (h : wpAny (model P w) A (Builtin.Frozenset.updateFrom "set.__init__" S a) (fun _ z => Q (.done (.ret .none)) z) E s) : wpAny (model P w) A (Builtin.«set.__init__» ⟨[.ref S, a], []⟩) Q E s := by
  unfold Builtin.«set.__init__» noKeywords
  generalize hPI : Builtin.Frozenset.updateFrom = PI at *
  wp_walk
  subst hPI
  exact wpAny_mono h (fun it z hz => wpAny_pure hz) fun _ _ e => e
theorem call_set_keys {l : Addr} {items : Array Value} (ks : List Key) {Q : Value → Shared → Prop} (hh : A.handled = none) (hl : s.heap.IsTuple l items ∨ s.heap.IsList l items) (hit : KeysAre items ks) (hb : ks.length + 1 < scanBound)
    (h : ∀ (h' : Heap) (tk c : Nat), KS w h' s.heap.objs.size ks c → c ≤ ks.length → (∀ b o, s.heap.get? b = some o → h'.get? b = some o) → Q (.ref s.heap.objs.size) { s with heap := h', toks := tk }) :
    wpAny (model P w) A (call (.type "set") [.ref l]) Q E s := by
  have hS : (s.heap.push (emptyS w)).get? s.heap.objs.size = some (emptyS w) := Heap.get?_push_size _ rfl
  refine call_set1 (set_init hS ?_)
  have hh3 : A.in1.in1.in1.handled = none := by simp [hh]
  have hz1 : (s.heap.push (emptyS w)).objs.size = s.heap.objs.size + 1 := Heap.size_push ..
  have fin : ∀ {wr : List Addr} {s' : Shared} {c : Nat} {G : Array GenState → Array GenState → Prop} {o0 : Obj} {g0 : ∀ {x y}, G x y → y = x}, wr = [s.heap.objs.size + 1] →
      Moved (s.heap.objs.size :: wr) G { s with heap := (s.heap.push (emptyS w)).push o0 } s' → c ≤ items.size → KS w s'.heap s.heap.objs.size ks c → Q (.ref s.heap.objs.size) s' := fun {wr s' c G o0 g0} ew mv hc hk => by
    subst ew
    obtain ⟨h', g2, d', tk', os'⟩ := s'
    obtain rfl : g2 = s.gens := g0 mv.gens
    obtain rfl : d' = s.drawn := mv.drawn
    obtain rfl : os' = s.os := mv.os
    rw [hit.1] at hc
    refine h h' tk' c hk hc fun b o e => ?_
    have hb0 : b < s.heap.objs.size := Heap.lt_size e
    exact mv.heap b o (nin2 (Nat.ne_of_lt hb0) (Nat.ne_of_lt (Nat.lt_succ_of_lt hb0))) (Heap.get?_push_of_some _ (Heap.get?_push_of_some _ e))
  rcases hl with hl | hl
  · have hl1 : (s.heap.push (emptyS w)).IsTuple l items := hl.push _
    have hlS : l < s.heap.objs.size := by
      obtain ⟨ol, hol, _⟩ := hl
      exact Heap.lt_size hol
    have hneI : l ≠ (s.heap.push (emptyS w)).objs.size := by rw [hz1]; exact Nat.ne_of_lt (Nat.lt_succ_of_lt hlS)
    obtain ⟨ol, hol, hcl, _⟩ := id hl1
    refine upd_seq (T := "tuple") ⟨ol, hol, hcl⟩ F.sub_tuple_set F.sub_tuple_frozenset (by decide) (wpAny_pyIter_tuple hl1 (wpAny_runValue ?_))
    refine ks_update ((Walks.tuple hh3 _ l hneI items).toS) s.heap.objs.size (by rw [hz1]; exact nin2 (Nat.ne_of_lt (Nat.lt_succ_self _)) (Nat.ne_of_gt hlS)) ks hit.1 hb hit.2 (items.size - 0) 0 _ (by omega) (Nat.zero_le _)
      ⟨⟨_, Heap.get?_push_size _ rfl, rfl, rfl⟩, (hl1.push _)⟩ ⟨0, Nat.le_refl 0, ks_new (Heap.get?_push_of_some _ hS)⟩ ?_
    intro s' c' hm hc' hS'
    exact ⟨rfl, fin (g0 := fun z => z) (by rw [hz1]) hm hc' hS'⟩
  · have hl1 : (s.heap.push (emptyS w)).IsList l items := hl.push _
    obtain ⟨ol, hol, hcl, _⟩ := id hl
    have hlS : l < s.heap.objs.size := Heap.lt_size hol
    have hneI : l ≠ (s.heap.push (emptyS w)).objs.size := by rw [hz1]; exact Nat.ne_of_lt (Nat.lt_succ_of_lt hlS)
    refine upd_seq (T := "list") ⟨ol, Heap.get?_push_of_some _ hol, hcl⟩ F.sub_list_set F.sub_list_frozenset (by decide) (wpAny_pyIter_list hl1 (wpAny_runValue ?_))
    refine ks_update ((Walks.list hh3 _ l hneI items).toS) s.heap.objs.size (by rw [hz1]; exact nin2 (Nat.ne_of_lt (Nat.lt_succ_self _)) (Nat.ne_of_gt hlS)) ks hit.1 hb hit.2 (items.size - 0) 0 _ (by omega) (Nat.zero_le _)
      ⟨⟨_, Heap.get?_push_size _ rfl, rfl, rfl⟩, (hl1.push _)⟩ ⟨0, Nat.le_refl 0, ks_new (Heap.get?_push_of_some _ hS)⟩ ?_
    intro s' c' hm hc' hS'
    exact ⟨rfl, fin (g0 := fun z => z) (by rw [hz1]) hm hc' hS'⟩

/-! ### sorted of such a set -/
open PySem.W in
theorem sorted_ks {β : Type} {a : Addr} {ks : List Key} {n : Nat} {Q : Value → Shared → Prop} {enc : β → PyData} (toK : β → Key) (ofK : Key → β) (hinv : ∀ k, k ∈ ks → toK (ofK k) = k) (henc : ∀ (k : Key) (u : Value) (h : Heap), k ∈ ks → keyIs k u = true → ∃ as, Reads h u (enc (ofK k)) as)
    (hal : ∀ b b', alike (enc b) (enc b') = true) (hso : ∀ b, enc b ≠ .none ∧ ∀ xs, enc b ≠ .tuple xs) (hde : ∀ b, (enc b).depth = 0) (R : KS w s.heap a ks n) (hh : A.handled = none) (hu : A.units + 8 < cLine)
    (hQ : ∀ s' p (out : List Value) (c : Nat) (bs : List β), (∀ b o, s.heap.get? b = some o → s'.heap.get? b = some o) → s'.gens = s.gens → s'.os = s.os → s.heap.objs.size ≤ p →
      s'.heap.get? p = some (seqObj "list" out.toArray c) → out.length ≤ sizeLine → EachIs (fun u b => keyIs (toK b) u = true) out (bs.mergeSort (dataLe false enc)) → (bs.map toK).Nodup → (∀ k, k ∈ bs.map toK ↔ k ∈ ks) → bs.length = n → Q (.ref p) s') :
    wpAny (model P w) A (call (.builtin "sorted") [.ref a]) Q E s := by
  obtain ⟨o, es, ep, t, ⟨ho, hex, hd⟩, ⟨g, nd, hm⟩, ⟨hb, hf, hn⟩, hr, hl⟩ := R
  refine Calls.call_function_entry kind_sorted plain_sorted entry_sorted (args_sorted1 _) ?_
  unfold Builtin.«sorted»
  refine wpAny_bind (m := checkCount "sorted" 1 1 _) (wpAny_pure ?_)
  refine wpAny_bind (collect_set (A := A.in1) hh ⟨o, ho, hex.1, hd⟩ hf hb hr hl fun s1 vs k1 hz g1 o1 pm => ?_)
  have hvl : vs.length = n := by rw [pm.length_eq, List.length_map, Array.length_toList]; exact hn
  have hvz : vs.length ≤ sizeLine := by rw [hvl, ← hn]; exact fits_of_scanBound hb
  have hv : ∀ v ∈ vs, keyIs (kOf (0, v)) v = true ∧ kOf (0, v) ∈ ks := fun v hv => by
    obtain ⟨e, he, q⟩ := List.mem_map.mp (pm.mem_iff.mp hv)
    subst q
    have z := (g e he).1
    have e1 : kOf (0, e.2) = kOf e := kOf_is z
    rw [e1]
    exact ⟨z, (hm _).2 (List.mem_map.mpr ⟨e, he, rfl⟩)⟩
  have pk : (vs.map fun v => kOf (0, v)).Perm (es.toList.map kOf) := by
    have q := pm.map fun v => kOf (0, v)
    rw [List.map_map] at q
    refine q.trans (List.Perm.of_eq (List.map_congr_left fun e he => kOf_is (g e he).1))
  have ek : ∀ {l : List Value}, (∀ v ∈ l, keyIs (kOf (0, v)) v = true ∧ kOf (0, v) ∈ ks) → EachIs (fun u b => keyIs (toK b) u = true) l (l.map fun v => ofK (kOf (0, v))) := by
    intro l
    induction l with
    | nil => exact fun _ => .nil
    | cons v l ih =>
      intro q
      refine .cons ?_ (ih fun u hu => q u (List.mem_cons_of_mem _ hu))
      rw [hinv _ (q v List.mem_cons_self).2]
      exact (q v List.mem_cons_self).1
  have er : ∀ (h : Heap) {l : List Value}, (∀ v ∈ l, keyIs (kOf (0, v)) v = true ∧ kOf (0, v) ∈ ks) → EachIs (fun u b => ∃ as, Reads h u (enc b) as) l (l.map fun v => ofK (kOf (0, v))) := by
    intro h l
    induction l with
    | nil => exact fun _ => .nil
    | cons v l ih => exact fun q => .cons (henc _ v h (q v List.mem_cons_self).2 (q v List.mem_cons_self).1) (ih fun u hu => q u (List.mem_cons_of_mem _ hu))
  refine wpAny_bind (wpAny_newList ?_ hvz)
  have hoL : (s1.heap.push (seqObj "list" vs.toArray 0)).get? s1.heap.objs.size = some (seqObj "list" vs.toArray 0) := Heap.get?_push_size _ rfl
  have er1 := er (sortingHeap (s1.heap.push (seqObj "list" vs.toArray 0)) s1.heap.objs.size vs) hv
  refine wpAny_bind (wpAny_holding (wpAny_call_entry slot_list_sort ⟨_, hoL, rfl⟩ entry_list_sort (list_sort_vals (s := { s1 with heap := s1.heap.push (seqObj "list" vs.toArray 0) }) hoL
    (SortsAt.data (s := { s1 with heap := sortingHeap (s1.heap.push (seqObj "list" vs.toArray 0)) s1.heap.objs.size vs }) (each_map (R := fun v d => ∃ as, Reads (sortingHeap (s1.heap.push (seqObj "list" vs.toArray 0)) s1.heap.objs.size vs) v d as) enc er1)
      (AllAlike.of hal) (Sortable.others hso) fun d hd => ?_) hvz ⟨_, rfl, ?_⟩) (args_list_sort _)))
  · obtain ⟨b, _, rfl⟩ := List.mem_map.mp hd
    rw [hde b]
    have z : A.in1.in1.units = A.units + 2 := by simp [Around.in1]
    omega
  · obtain ⟨c, hc⟩ := sortedHeap_at (vs := vs) (out := (sortVals (dataKind (sortingHeap (s1.heap.push (seqObj "list" vs.toArray 0)) s1.heap.objs.size vs) ((vs.map fun v => ofK (kOf (0, v))).map enc)) false vs vs).toArray) hoL
    refine wpAny_pure ⟨_, rfl, hQ _ s1.heap.objs.size _ c (vs.map fun v => ofK (kOf (0, v))) (fun b u e => ?_) g1 o1 hz hc ?_ (sortVals_data false (ek hv) er1 (AllAlike.of hal)) ?_ ?_ ?_⟩
    · have q := k1 b u e
      have hlt := Heap.lt_size q
      show (sortedHeap (s1.heap.push (seqObj "list" vs.toArray 0)) s1.heap.objs.size vs _).get? b = some u
      rw [sortedHeap_old (Nat.ne_of_lt hlt) (by rw [size_push']; exact Nat.lt_succ_of_lt hlt)]
      exact Heap.get?_push_of_some _ q
    · rw [sortVals_length false rfl]; exact hvz
    · rw [List.map_map]
      have q : vs.map (toK ∘ fun v => ofK (kOf (0, v))) = vs.map fun v => kOf (0, v) := List.map_congr_left fun v h => hinv _ (hv v h).2
      rw [q]
      exact pk.nodup_iff.mpr nd
    · intro k
      rw [List.map_map]
      have q : vs.map (toK ∘ fun v => ofK (kOf (0, v))) = vs.map fun v => kOf (0, v) := List.map_congr_left fun v h => hinv _ (hv v h).2
      rw [q, pk.mem_iff, ← hm k]
    · rw [List.length_map]; exact hvl
end
end TW
set_option Elab.async false
set_option linter.all false
set_option maxRecDepth 100000
set_option maxHeartbeats 4000000
namespace TW
open PySem PySem.Spec PyProof.Rows L2 PySem.W

/-- the set of the keys ks (n of them, each once) at a -/
def SKO (w : World) (a : Addr) (ks : List Key) (n : Nat) : HO := .ext fun h => KS w h a ks n
theorem sko_ok {w : World} {P : Program} {H : Hp} {h : Heap} {a : Addr} {ks : List Key} {n : Nat} (R : KS w h a ks n) : ObjOk P w H h a (SKO w a ks n) := by
  obtain ⟨o, es, ep, t, ⟨ho, r1⟩, r⟩ := id R
  exact ⟨R, ⟨o, ho⟩, fun h1 h2 q k => q.at k⟩
section
variable {X : Cx} {pins : List (Addr × Obj)} {σ : L2.St} {H : Hp} {s : Shared}
theorem sko_get {a : Addr} {ks : List Key} {n : Nat} (I : Inv X pins σ H s) (ha : H a = some (SKO X.w a ks n)) : KS X.w s.heap a ks n := (I.hok a _ ha).1
theorem ks_count {w : World} {h : Heap} {a : Addr} {ks : List Key} {n : Nat} (R : KS w h a ks n) : ∃ l : List Key, l.Nodup ∧ l.length = n ∧ ∀ k, k ∈ l ↔ k ∈ ks := by
  obtain ⟨o, es, ep, t, r1, ⟨g, nd, m⟩, ⟨_, _, hn⟩, _⟩ := R
  exact ⟨es.toList.map kOf, nd, by rw [List.length_map, Array.length_toList]; exact hn, fun k => (m k).symm⟩
theorem relV_key {k : Key} {u : Value} (r : RelV (kV k) u) : keyIs k u = true := by
  cases k with
  | inl i => obtain ⟨t, rfl⟩ := r; exact keyIs_int i t
  | inr x => obtain ⟨t, rfl⟩ := r; exact keyIs_str x t
theorem key_relV {k : Key} {u : Value} (h : keyIs k u = true) : RelV (kV k) u := by
  rcases keyIs_shape h with ⟨i, t, rfl, rfl⟩ | ⟨x, t, rfl, rfl⟩ <;> exact ⟨t, rfl⟩
theorem keysAre_of : ∀ {ks : List Key} {its : List Value}, Vals (ks.map kV) its → KeysAre its.toArray ks
  | [], _, r => by cases r; exact ⟨rfl, fun i v h => by simp at h⟩
  | k :: ks, _, r => by
    cases r with
    | @cons _ u _ us r1 r2 =>
      obtain ⟨h1, h2⟩ := keysAre_of r2
      refine ⟨by simpa using h1, fun i v h => ?_⟩
      cases i with
      | zero => exact ⟨k, rfl, by simp at h; exact h ▸ relV_key r1⟩
      | succ i => exact h2 i v (by simpa using h)
/-- set(xs) of a list or a tuple of ints and texts -/
def rSetK (K : PySem.W.Frag) (w : World) : List V → Hp → VK → Prop := fun vs H Q => ∃ (p : Addr) (ks : List Key), vs = [.ref p] ∧ (SqL K H p (ks.map kV) ∨ SqT K H p (ks.map kV)) ∧ ks.length ≤ 4090 ∧
  ∀ q n, H q = none → n ≤ ks.length → (∃ l : List Key, l.Nodup ∧ l.length = n ∧ ∀ k, k ∈ l ↔ k ∈ ks) → Q (.ref q) (upd H q (SKO w q ks n))
theorem cr_setK (K : PySem.W.Frag) (w : World) (hc : X.calm = true := by rfl) (hK : X.K = K := by rfl) (hw : X.w = w := by rfl) : CallR X (.type "set") (rSetK K w) := by
  subst hK hw
  intro pins s σ H vs us Q I r h
  obtain ⟨p, ks, rfl, hs, hl, q⟩ := h
  rw [Vals.ref1 r]
  have go : ∀ {its : List Value}, Vals (ks.map kV) its → (s.heap.IsTuple p its.toArray ∨ s.heap.IsList p its.toArray) → wpAny (model X.prog X.w) X.A (call (.type "set") [.ref p]) (EP X pins σ Q) X.xe s := fun {its} rv ht =>
    call_set_keys ks (I.ok.hd hc) ht (keysAre_of rv) (by show ks.length + 1 < 4096; omega) fun h' tk c hk hcn k => by
      have I1 : Inv X pins σ (upd H s.heap.objs.size (SKO X.w s.heap.objs.size ks c)) { s with heap := h', toks := tk } := I.laid k (Nat.le_refl _) (sko_ok hk)
      exact ⟨.ref _, _, I1, rfl, q _ c (I.hok.fresh (Nat.le_refl _)) hcn (ks_count hk)⟩
  rcases hs with hs | hs
  · obtain ⟨its, rv, pl, _⟩ := I.list hs
    exact go rv (.inr pl.isList)
  · obtain ⟨its, rv, pl, _⟩ := I.tuple hs
    exact go rv (.inl pl)
/-- len(s) -/
def rLenK (w : World) : List V → Hp → VK → Prop := fun vs H Q => ∃ (a : Addr) (ks : List Key) (n : Nat), vs = [.ref a] ∧ H a = some (SKO w a ks n) ∧ Q (.int n) H
theorem cr_lenK (w : World) (hw : X.w = w := by rfl) : CallR X (.builtin "len") (rLenK w) := by
  subst hw
  intro pins s σ H vs us Q I r h
  obtain ⟨a, ks, n, rfl, ha, q⟩ := h
  rw [Vals.ref1 r]
  obtain ⟨o, es, ep, t, ⟨ho, hex, hd⟩, _, ⟨hb, hf, hn⟩, _⟩ := sko_get I ha
  exact call_len_set ho hex hd hf (by have := hb; unfold scanBound at this; omega) ⟨.int n, H, I.tok _, ⟨_, by rw [hn]⟩, q⟩
/-- a text at or ahead of another -/
def sle (x y : Str) : Bool := decide (x.cps.toList ≤ y.cps.toList)
theorem sle_trans (x y z : Str) (h1 : sle x y = true) (h2 : sle y z = true) : sle x z = true := by
  unfold sle at *
  rw [decide_eq_true_eq] at *
  exact List.le_trans h1 h2
theorem sle_total (x y : Str) : (sle x y || sle y x) = true := by
  unfold sle
  rw [Bool.or_eq_true, decide_eq_true_eq, decide_eq_true_eq]
  exact List.le_total _ _
theorem sle_antisymm (x y : Str) (h1 : sle x y = true) (h2 : sle y x = true) : x = y := by
  unfold sle at *
  rw [decide_eq_true_eq] at *
  exact str_of_cps (List.le_antisymm h1 h2)
theorem nodup_of_map {α γ : Type} (f : α → γ) {l : List α} (h : (l.map f).Nodup) : l.Nodup := (List.pairwise_map.mp h).imp fun q e => q (by rw [e])
theorem mem_map_inl {ks : List Int} {k : Int} : (Sum.inl k : Key) ∈ ks.map Sum.inl ↔ k ∈ ks := by simp
theorem mem_map_inr {ks : List Str} {k : Str} : (Sum.inr k : Key) ∈ ks.map Sum.inr ↔ k ∈ ks := by simp
theorem vals_each {β : Type} {f : β → V} : ∀ {out : List Value} {bs : List β} (R : Value → β → Prop), (∀ u b, R u b → RelV (f b) u) → EachIs R out bs → Vals (bs.map f) out
  | _, _, _, _, .nil => .nil
  | _, _, R, g, .cons h t => .cons (g _ _ h) (vals_each R g t)
theorem laid_new {p : Addr} {o : HO} {s' : Shared} (I : Inv X pins σ H s) (k : ∀ b u, s.heap.get? b = some u → s'.heap.get? b = some u) (g : s'.gens = s.gens) (o1 : s'.os = s.os) (hp : s.heap.objs.size ≤ p) (ok : ObjOk X.prog X.w (upd H p o) s'.heap p o) :
    Inv X pins σ (upd H p o) s' ∧ H p = none := by
  have hn : H p = none := I.hok.fresh hp
  exact ⟨I.call' (ch := []) o1 (Un.laid k hp hn) (I.hok.laid k hp ok) (by rw [g]; exact I.bare) (fun _ z => nomatch z), hn⟩
/-- sorted(s), s a set of ints -/
def rSortedKI (w : World) : List V → Hp → VK → Prop := fun vs H Q => ∃ (a : Addr) (ks : List Int) (n : Nat), vs = [.ref a] ∧ H a = some (SKO w a (ks.map Sum.inl) n) ∧
  ∀ (ns : List Int) p, ns.Pairwise (· < ·) → (∀ k, k ∈ ns ↔ k ∈ ks) → ns.length = n → H p = none → Q (.ref p) (upd H p (.lst (ns.map V.int)))
theorem cr_sortedKI (w : World) (hu : X.A.units + 8 < cLine) (hc : X.calm = true := by rfl) (hw : X.w = w := by rfl) : CallR X (.builtin "sorted") (rSortedKI w) := by
  subst hw
  intro pins s σ H vs us Q I r h
  obtain ⟨a, ks, n, rfl, ha, q⟩ := h
  rw [Vals.ref1 r]
  have mem : ∀ {k : Key}, k ∈ ks.map Sum.inl → ∃ i, k = Sum.inl i := fun hk => by
    obtain ⟨i, _, e⟩ := List.mem_map.mp hk
    exact ⟨i, e.symm⟩
  refine sorted_ks (β := Int) (enc := fun i => .int i) Sum.inl (fun k => match k with | .inl i => i | .inr _ => 0) (fun k hk => ?_) (fun k u h hk hi => ?_) (fun _ _ => by simp [alike]) (fun b => ⟨by simp, fun xs => by simp⟩) (fun b => by simp [PyData.depth])
    (sko_get I ha) (I.ok.hd hc) hu fun s' p out c bs k1 g1 o1 hp hc hz e nd hm hn => ?_
  · obtain ⟨i, rfl⟩ := mem hk; rfl
  · obtain ⟨i, rfl⟩ := mem hk
    rcases keyIs_shape hi with ⟨j, t, ej, rfl⟩ | ⟨x, t, ej, rfl⟩
    · cases ej; exact ⟨[], .int _ _⟩
    · cases ej
  · have pm : (bs.mergeSort (dataLe false fun i => PyData.int i)).Perm bs := List.mergeSort_perm _ _
    have hnd : bs.Nodup := nodup_of_map _ nd
    have hv : Vals ((bs.mergeSort (dataLe false fun i => PyData.int i)).map V.int) out := vals_each _ (fun u b hb => key_relV (k := Sum.inl b) hb) e
    have pw : (bs.mergeSort (dataLe false fun i => PyData.int i)).Pairwise (· < ·) := by
      have z := List.pairwise_mergeSort (le := fun a b : Int => decide (a ≤ b)) (fun a b c h1 h2 => by simp only [decide_eq_true_eq] at *; omega) (fun a b => by simp only [Bool.or_eq_true, decide_eq_true_eq]; omega) bs
      rw [← dataLe_int (fun b => b)] at z
      refine lt_of_le_nodup _ ?_ (pm.nodup_iff.mpr hnd)
      rw [dataLe_int (fun b => b)] at z ⊢
      exact z.imp fun h => by simpa using h
    obtain ⟨I2, hn'⟩ := laid_new I (o := .lst ((bs.mergeSort (dataLe false fun i => PyData.int i)).map V.int)) k1 g1 o1 hp ⟨by rw [hv.length]; exact hz, out, c, hv, hc⟩
    refine ⟨.ref p, _, I2, rfl, q _ p pw (fun k => ?_) (by rw [pm.length_eq]; exact hn) hn'⟩
    rw [pm.mem_iff]
    have z := hm (Sum.inl k)
    rw [mem_map_inl, mem_map_inl] at z
    exact z
/-- sorted(s), s a set of texts -/
def rSortedKS (w : World) : List V → Hp → VK → Prop := fun vs H Q => ∃ (a : Addr) (ks : List Str) (n : Nat), vs = [.ref a] ∧ H a = some (SKO w a (ks.map Sum.inr) n) ∧
  ∀ (ns : List Str) p, ns.Pairwise (fun x y => sle x y = true) → ns.Nodup → (∀ k, k ∈ ns ↔ k ∈ ks) → ns.length = n → H p = none → Q (.ref p) (upd H p (.lst (ns.map V.str)))
theorem cr_sortedKS (w : World) (hu : X.A.units + 8 < cLine) (hc : X.calm = true := by rfl) (hw : X.w = w := by rfl) : CallR X (.builtin "sorted") (rSortedKS w) := by
  subst hw
  intro pins s σ H vs us Q I r h
  obtain ⟨a, ks, n, rfl, ha, q⟩ := h
  rw [Vals.ref1 r]
  have mem : ∀ {k : Key}, k ∈ ks.map Sum.inr → ∃ i, k = Sum.inr i := fun hk => by
    obtain ⟨i, _, e⟩ := List.mem_map.mp hk
    exact ⟨i, e.symm⟩
  refine sorted_ks (β := Str) (enc := fun i => .str i) Sum.inr (fun k => match k with | .inr i => i | .inl _ => Str.empty) (fun k hk => ?_) (fun k u h hk hi => ?_) (fun _ _ => by simp [alike]) (fun b => ⟨by simp, fun xs => by simp⟩) (fun b => by simp [PyData.depth])
    (sko_get I ha) (I.ok.hd hc) hu fun s' p out c bs k1 g1 o1 hp hc hz e nd hm hn => ?_
  · obtain ⟨i, rfl⟩ := mem hk; rfl
  · obtain ⟨i, rfl⟩ := mem hk
    rcases keyIs_shape hi with ⟨j, t, ej, rfl⟩ | ⟨x, t, ej, rfl⟩
    · cases ej
    · cases ej; exact ⟨[], .str _ _⟩
  · have pm : (bs.mergeSort (dataLe false fun i => PyData.str i)).Perm bs := List.mergeSort_perm _ _
    have hnd : bs.Nodup := nodup_of_map _ nd
    have hv : Vals ((bs.mergeSort (dataLe false fun i => PyData.str i)).map V.str) out := vals_each _ (fun u b hb => key_relV (k := Sum.inr b) hb) e
    have pw : (bs.mergeSort (dataLe false fun i => PyData.str i)).Pairwise (fun x y => sle x y = true) := by
      rw [dataLe_str (fun b => b)]
      exact List.pairwise_mergeSort (le := sle) sle_trans sle_total bs
    obtain ⟨I2, hn'⟩ := laid_new I (o := .lst ((bs.mergeSort (dataLe false fun i => PyData.str i)).map V.str)) k1 g1 o1 hp ⟨by rw [hv.length]; exact hz, out, c, hv, hc⟩
    refine ⟨.ref p, _, I2, rfl, q _ p pw (pm.nodup_iff.mpr hnd) (fun k => ?_) (by rw [pm.length_eq]; exact hn) hn'⟩
    rw [pm.mem_iff]
    have z := hm (Sum.inr k)
    rw [mem_map_inr, mem_map_inr] at z
    exact z

/-! ### sorted of a list of data -/
theorem dpAll_map {K : PySem.W.Frag} {H : Hp} {β : Type} {enc : β → PyData} : ∀ {out : List Value} {bs : List β}, EachIs (fun u b => ∃ v, L2.RelV v u ∧ Dp K H v (enc b)) out bs → ∃ ys, Vals ys out ∧ DpAll K H ys (bs.map enc)
  | _, _, .nil => ⟨[], .nil, .nil⟩
  | _, _, .cons ⟨v, r, d⟩ t => by
    obtain ⟨ys, h1, h2⟩ := dpAll_map t
    exact ⟨v :: ys, .cons r h1, .cons d h2⟩
theorem each_dp {K : PySem.W.Frag} {H : Hp} {β : Type} {enc : β → PyData} : ∀ {bs : List β} {xs : List V} {us : List Value}, DpAll K H xs (bs.map enc) → Vals xs us → EachIs (fun u b => ∃ v, L2.RelV v u ∧ Dp K H v (enc b)) us bs
  | [], _, _, h, r => by
    cases h
    cases r
    exact .nil
  | b :: bs, _, _, h, r => by
    cases h with
    | cons h1 h2 =>
      cases r with
      | cons r1 r2 => exact .cons ⟨_, r1, h1⟩ (each_dp h2 r2)
end
end TW
set_option Elab.async false
set_option linter.all false
set_option maxRecDepth 100000
set_option maxHeartbeats 4000000
/-! {k: v for a in xs if .. for b in ys if ..}, keys ints and texts -/
namespace TW
open PySem PySem.Spec PyProof.Rows L2

abbrev DCX (kx vx t0 i0 : Expr) (f0 : List Expr) (t1 i1 : Expr) (f1 : List Expr) (scope : Scope) (pos : Pos) : Expr := .DictComp kx vx [⟨t0, i0, f0, 0⟩, ⟨t1, i1, f1, 0⟩] scope pos
section
variable {prog : Program} {w : World} {A : Around} {R : Result → Shared → Prop} {s : Shared} {kx vx t0 i0 t1 i1 : Expr} {f0 f1 : List Expr} {scope : Scope} {pos : Pos} {it : Value} {D : Addr} {env : Env}
/-- the tests of a clause -/
abbrev tst (fs : List Expr) (env : Env) : Sem Bool := forIn fs true fun c r => if r = true then do let ok ← isTrue c env (eval c env); pure (ForInStep.yield ok) else pure (ForInStep.yield r)
/-- a turn of a clause's loop: the next item stored, tested; then go -/
abbrev turnW (prog : Program) (w : World) (A : Around) (t : Expr) (fs : List Expr) (it : Value) (env : Env) (fin : Shared → Prop) (go : Shared → Prop) (skip : Shared → Prop) (R : Result → Shared → Prop) (s : Shared) : Prop :=
  wpAny (model prog w) A (pyNext it) (fun r z => match r with
    | none => fin z
    | some v => wpAny (model prog w) A (letOwnedTupleGo t it v) (fun _ z => wpAny (model prog w) A (assign t env v) (fun _ z => wpAny (model prog w) A (tst fs env) (fun ok z => if ok = true then go z else skip z)
        (notedBy (model prog w) A env fun e z => R (.error e) z) z) (notedBy (model prog w) A env fun e z => R (.error e) z) z) (notedBy (model prog w) A env fun e z => R (.error e) z) z) (notedBy (model prog w) A env fun e z => R (.error e) z) s
theorem turnD_out : compTurn (DCX kx vx t0 i0 f0 t1 i1 f1 scope pos) 0 it (.ref D) env = (do
      standAt i0.pos
      match ← pyNext it with
      | none => pure (.done .next)
      | some v => do
        letOwnedTupleGo t0 it v
        assign t0 env v
        let ok ← tst f0 env
        if ok = true then do
          let x ← eval i1 env
          standAt i1.pos
          let x ← foldedSetIterable i1 env x
          let _ ← runOwn (.compStart (DCX kx vx t0 i0 f0 t1 i1 f1 scope pos) 1 (← holding [x] (pyIter x)) (.ref D) env) env
          again (.compLoop (DCX kx vx t0 i0 f0 t1 i1 f1 scope pos) 0 it (.ref D) env)
        else again (.compLoop (DCX kx vx t0 i0 f0 t1 i1 f1 scope pos) 0 it (.ref D) env)) := by rfl
theorem turnD_in : compTurn (DCX kx vx t0 i0 f0 t1 i1 f1 scope pos) 1 it (.ref D) env = (do
      standAt i1.pos
      match ← pyNext it with
      | none => pure (.done .next)
      | some v => do
        letOwnedTupleGo t1 it v
        assign t1 env v
        let ok ← tst f1 env
        if ok = true then do
          (do let kv ← eval kx env
              let vv ← holding [kv] (eval vx env)
              standAt { kx.pos with endLine := vx.pos.endLine, endCol := vx.pos.endCol }
              holding [kv, vv] (dictSet D kv vv))
          again (.compLoop (DCX kx vx t0 i0 f0 t1 i1 f1 scope pos) 1 it (.ref D) env)
        else again (.compLoop (DCX kx vx t0 i0 f0 t1 i1 f1 scope pos) 1 it (.ref D) env)) := by rfl
theorem loopD_out (hs : ∀ x, foldedSetIterable i1 env x = pure x) (I : Nat → Shared → Prop)
    (turn : ∀ n s, I n s → turnW prog w A t0 f0 it env (R (.ok .next)) (fun z => wpAny (model prog w) A (eval i1 env) (fun x z => wpAny (model prog w) A (pyIter x) (fun it1 z =>
        codeAny (model prog w) A (.compStart (DCX kx vx t0 i0 f0 t1 i1 f1 scope pos) 1 it1 (.ref D) env) (fun r z => match r with
          | .ok _ => ∃ m, m < n ∧ I m z
          | .error _ => False) z) (notedBy (model prog w) A env fun e z => R (.error e) z) z) (notedBy (model prog w) A env fun e z => R (.error e) z) z) (fun z => ∃ m, m < n ∧ I m z) R s)
    (n : Nat) (h : I n s) : codeAny (model prog w) A (.compLoop (DCX kx vx t0 i0 f0 t1 i1 f1 scope pos) 0 it (.ref D) env) R s := by
  refine codeAny_loop rfl I (fun n s hI => ?_) n h
  show wpAny _ A ((compTurn (DCX kx vx t0 i0 f0 t1 i1 f1 scope pos) 0 it (.ref D) env).onRaise (fun x => do noteFrame x env; theTreesLotGoes x)) _ _ s
  refine wpAny_noted ?_
  rw [turnD_out]
  refine wpAny_bind (wpAny_standAt (wpAny_bind (thn (turn n s hI) fun r z hz => ?_)))
  cases r with
  | none => exact wpAny_pure hz
  | some v =>
    refine wpAny_bind (thn hz fun _ z hz => wpAny_bind (thn hz fun _ z hz => wpAny_bind (thn hz fun ok z hz => ?_)))
    cases ok with
    | false => exact wpAny_pure ⟨rfl, hz⟩
    | true =>
      refine wpAny_bind (thn hz fun x z hz => wpAny_bind (wpAny_standAt (wpAny_bind (wpAny_of_eq (hs x) (wpAny_bind (wpAny_holding (thn hz fun it1 z hz => wpAny_bind (wpAny_runOwn ?_))))))))
      rw [Around.mark_none]
      refine codeAny_mono hz fun r z hr => ?_
      cases r with
      | ok f => first | exact wpAny_pure ⟨rfl, hr⟩ | exact wpAny_bind (wpAny_pure (wpAny_pure ⟨rfl, hr⟩))
      | error e => exact hr.elim
theorem loopD_in (I : Nat → Shared → Prop)
    (turn : ∀ n s, I n s → turnW prog w A t1 f1 it env (R (.ok .next)) (fun z => wpAny (model prog w) A (eval kx env) (fun kv z => wpAny (model prog w) A (eval vx env) (fun vv z =>
        wpAny (model prog w) A (dictSet D kv vv) (fun _ z => ∃ m, m < n ∧ I m z) (notedBy (model prog w) A env fun e z => R (.error e) z) z) (notedBy (model prog w) A env fun e z => R (.error e) z) z) (notedBy (model prog w) A env fun e z => R (.error e) z) z) (fun z => ∃ m, m < n ∧ I m z) R s)
    (n : Nat) (h : I n s) : codeAny (model prog w) A (.compLoop (DCX kx vx t0 i0 f0 t1 i1 f1 scope pos) 1 it (.ref D) env) R s := by
  refine codeAny_loop rfl I (fun n s hI => ?_) n h
  show wpAny _ A ((compTurn (DCX kx vx t0 i0 f0 t1 i1 f1 scope pos) 1 it (.ref D) env).onRaise (fun x => do noteFrame x env; theTreesLotGoes x)) _ _ s
  refine wpAny_noted ?_
  rw [turnD_in]
  refine wpAny_bind (wpAny_standAt (wpAny_bind (thn (turn n s hI) fun r z hz => ?_)))
  cases r with
  | none => exact wpAny_pure hz
  | some v =>
    refine wpAny_bind (thn hz fun _ z hz => wpAny_bind (thn hz fun _ z hz => wpAny_bind (thn hz fun ok z hz => ?_)))
    cases ok with
    | false => exact wpAny_pure ⟨rfl, hz⟩
    | true => exact wpAny_bind (wpAny_bind (thn hz fun kv z hz => wpAny_bind (wpAny_holding (thn hz fun vv z hz => wpAny_bind (wpAny_standAt (wpAny_holding (thn hz fun _ z hz => wpAny_pure ⟨rfl, hz⟩)))))))
theorem startD1 (h0 : codeAny (model prog w) A (.compLoop (DCX kx vx t0 i0 f0 t1 i1 f1 scope pos) 1 it (.ref D) env) R s)
    (h : wpAny (model prog w) A (pyIter it) (fun it' z => codeAny (model prog w) A (.compLoop (DCX kx vx t0 i0 f0 t1 i1 f1 scope pos) 1 it' (.ref D) env) R z) (notedBy (model prog w) A env fun x z => R (.error x) z) s) :
    codeAny (model prog w) A (.compStart (DCX kx vx t0 i0 f0 t1 i1 f1 scope pos) 1 it (.ref D) env) R s := by
  refine codeAny_of_tree ?_
  show wpAny _ _ ((compStart (DCX kx vx t0 i0 f0 t1 i1 f1 scope pos) 1 it (.ref D) env).onRaise (fun x => do noteFrame x env; standAt theWindowsPlace)) _ _ s
  refine wpAny_notedAt ?_
  unfold compStart
  show wpAny _ _ (ask >>= _) _ _ s
  refine wpAny_bind (wpAny_askSetting (wpAny_ite ?_))
  split
  · first
      | exact wpAny_bind (wpAny_pure (wpAny_pure (And.intro rfl h0)))
      | exact wpAny_pure (And.intro rfl h0)
  · first
      | exact wpAny_bind (wpAny_rule (wpAny_bind (wpAny_standAt (wpAny_bind (thn h fun it' z hz => wpAny_pure (And.intro rfl hz))))))
      | (refine wpAny_bind (wpAny_rule ?_); show wpAny _ _ (standAt i1.pos >>= _) _ _ s; exact wpAny_bind (wpAny_standAt (wpAny_bind (thn h fun it' z hz => wpAny_pure (And.intro rfl hz)))))
end
end TW
set_option Elab.async false
set_option linter.all false
set_option maxRecDepth 100000
set_option maxHeartbeats 4000000
namespace TW
open PySem PySem.Spec PyProof.Rows L2
section
variable {X : Cx}
/-- one turn's reading of a clause: the item stored, tested -/
abbrev turnR (g : TG) (tt : TT) (vs : List Nat) (σ : L2.St) (x : V) (H' : Hp) (yes : L2.St → Hp → Prop) (no : Hp → Prop) : Prop :=
  g x (wipe σ vs) H' fun σ2 H2 => wipe σ2 vs = wipe σ vs ∧ tt σ2 H2 fun b H3 => if b = true then yes σ2 H3 else no H3
/-- a loop by a walk J: W says what holds at the turns -/
abbrev loopR (J : It) (W : Nat → Nat → Hp → Prop) (stop : Hp → Prop) (turn : V → Hp → (Hp → Prop) → Prop) : Prop :=
  ∀ i m H, W i m H → (J.stop i H ∧ stop H) ∨ (J.go i H ∧ ∃ Nx : Hp → Prop, (∀ H', Nx H' → ∃ m', m' < m ∧ W (i + 1) m' H') ∧ ∀ x H', J.yld i H x H' → turn x H' Nx)
def tDc2 (wi : TI) (g : TG) (tt : TT) (wi1 : TI) (g1 : TG) (tt1 : TT) (tk tv : TE) (vs vs1 : List Nat) : TE := fun σ H Q => wi σ H fun J H1 => ∀ D, H1 D = none → ∃ W : Nat → Nat → Hp → Prop, (∃ m, W 0 m (upd H1 D (.dK []))) ∧
  loopR J W (fun H => Q (.ref D) H) fun x H' Nx => turnR g tt vs σ x H' (fun σ2 H3 => wi1 σ2 H3 fun J1 H4 => ∃ W1 : Nat → Nat → Hp → Prop, (∃ m, W1 0 m H4) ∧
    loopR J1 W1 Nx fun x H' Nx1 => turnR g1 tt1 vs1 σ2 x H' (fun σ3 H6 => tk σ3 H6 fun y H7 => tv σ3 H7 fun z H8 => ∃ kvs k, y = kV k ∧ H8 D = some (.dK kvs) ∧ kvs.length < sizeLine ∧ Nx1 (upd H8 D (.dK (putK kvs k z)))) Nx1) Nx
/-- what the parts of such a display are, in its block -/
structure Blk2 (X : Cx) (kx vx t0 : Expr) (f0 : List Expr) (t1 i1 : Expr) (f1 : List Expr) (scope : Scope) (g : TG) (tt : TT) (wi1 : TI) (g1 : TG) (tt1 : TT) (tk tv : TE) : Prop where
  pg : ∀ (s : Shared) (H : Hp) (C : Addr) (cl : List (Str × Addr)) (fp : List Addr), PG (X.blk s H scope (compEnvC scope cl C X.env) fp) t0 g
  pt : ∀ (s : Shared) (H : Hp) (C : Addr) (cl : List (Str × Addr)) (fp : List Addr), PTs (X.blk s H scope (compEnvC scope cl C X.env) fp) f0 tt
  pi : ∀ (s : Shared) (H : Hp) (C : Addr) (cl : List (Str × Addr)) (fp : List Addr), PI (X.blk s H scope (compEnvC scope cl C X.env) fp) t1 i1 wi1
  pg1 : ∀ (s : Shared) (H : Hp) (C : Addr) (cl : List (Str × Addr)) (fp : List Addr), PG (X.blk s H scope (compEnvC scope cl C X.env) fp) t1 g1
  pt1 : ∀ (s : Shared) (H : Hp) (C : Addr) (cl : List (Str × Addr)) (fp : List Addr), PTs (X.blk s H scope (compEnvC scope cl C X.env) fp) f1 tt1
  pk : ∀ (s : Shared) (H : Hp) (C : Addr) (cl : List (Str × Addr)) (fp : List Addr), PE (X.blk s H scope (compEnvC scope cl C X.env) fp) kx tk
  pv : ∀ (s : Shared) (H : Hp) (C : Addr) (cl : List (Str × Addr)) (fp : List Addr), PE (X.blk s H scope (compEnvC scope cl C X.env) fp) vx tv
theorem dc2_core {pins : List (Addr × Obj)} {s : Shared} {σ : L2.St} {H : Hp} {Q : VK} {pos' : Pos} {use : Option (Value → Sem Unit)} {Qf : Value → Shared → Prop} {kx vx t0 i0 t1 i1 : Expr} {f0 f1 : List Expr} {scope : Scope} {own : List (Str × Nat)} {vs1 : List Nat} {pos : Pos} {wi wi1 : TI} {g g1 : TG} {tt tt1 : TT} {tk tv : TE} (hc : X.calm = true) (hN : X.N.Nodup) (I : Inv X pins σ H s) (hi : PI X t0 i0 wi) (ok : BlkOk X.N X.env.scope scope own) (hv : ∀ i ∈ vs1, i ∈ own.map (·.2))
    (B : Blk2 X kx vx t0 f0 t1 i1 f1 scope g tt wi1 g1 tt1 tk tv) (hs : ∀ x, foldedSetIterable i0 X.env x = pure x) (hs1 : ∀ env x, foldedSetIterable i1 env x = pure x) (h : tDc2 wi g tt wi1 g1 tt1 tk tv (own.map (·.2)) vs1 σ H Q)
    (hRR : ∀ D C s' m H', Inv X pins σ H' s' → Q (.ref D) H' → s'.heap.Ns C m → FpOk X pins H' C → compPost (model X.prog X.w) X.A X.xe use Qf (.ref D) C (.ok .next) s') :
    wpAny (model X.prog X.w) X.A (comprehension (.DictComp kx vx [⟨t0, i0, f0, 0⟩, ⟨t1, i1, f1, 0⟩] scope pos) scope X.env pos' newDict false (eval i0 X.env) use) Qf X.xe s := by
  have hfree : ∀ y ∈ scope.names, y.2 = .free → ∃ c, X.env.cells.lookup y.1 = some c := fun y hy e => (ok.free y hy e).elim (fun k => I.ok.has _ (.inl k)) fun k => I.ok.has _ (.inr k)
  refine wpAny_comprehension_free (use := use) rfl hs (closure_ok hfree) ok.kind (fun y hy e => by rw [ok.uniq y hy, e]) (thn (hi.run pins s σ H _ I h) fun xv s1 hx => thn hx fun itv s2 h2 => ?_)
  obtain ⟨it, fp, tn, J, H2, rfl, I2, T, st2, f2, q⟩ := h2
  refine wpAny_newObj_type (newEnv_comp ?_)
  generalize hD : s2.heap.objs.size = D
  have hDn : H2 D = none := I2.hok.fresh (Nat.le_of_eq hD)
  obtain ⟨W, ⟨m0, w0⟩, turn⟩ := q D hDn
  generalize hs3 : ({ s2 with heap := s2.heap.push { cls := .type "dict", data := .dict #[] } } : Shared) = s3
  have h3 : s3.heap = s2.heap.push { cls := .type "dict", data := .dict #[] } := by rw [← hs3]
  have I3 : Inv X pins σ (upd H2 D (.dK [])) s3 := by
    rw [← hs3, ← hD]
    exact I2.laid (t' := s2.toks) (fun b o e => Heap.get?_push_of_some _ e) (Nat.le_refl _) (dk_empty s2.heap I2.big)
  have f3 : ∀ b ∈ fp, FpOk X pins (upd H2 D (.dK [])) b ∧ b < s3.heap.objs.size := fun b hb => by
    obtain ⟨o, e, _⟩ := T.obj _ _ st2 b hb
    have lt := Heap.lt_size e
    refine ⟨⟨?_, (f2 b hb).2⟩, by rw [h3, Heap.size_push]; exact Nat.lt_succ_of_lt lt⟩
    rw [upd_ne (hD ▸ Nat.ne_of_lt lt)]
    exact (f2 b hb).1
  have st3 : tn 0 s3.heap := T.keep _ _ _ st2 fun b _ o e => h3 ▸ Heap.get?_push_of_some _ e
  have I4 := block_start I3 ok hN f3
  generalize hcl : cellsFrom (s3.heap.objs.size + 1) scope.names (cloFrom X.env.cells scope.names []) = cl at I4 ⊢
  have pg := B.pg s3 (upd H2 D (.dK [])) s3.heap.objs.size cl fp
  have pt := B.pt s3 (upd H2 D (.dK [])) s3.heap.objs.size cl fp
  have pI := B.pi s3 (upd H2 D (.dK [])) s3.heap.objs.size cl fp
  have pg1 := B.pg1 s3 (upd H2 D (.dK [])) s3.heap.objs.size cl fp
  have pt1 := B.pt1 s3 (upd H2 D (.dK [])) s3.heap.objs.size cl fp
  have pk := B.pk s3 (upd H2 D (.dK [])) s3.heap.objs.size cl fp
  have pv := B.pv s3 (upd H2 D (.dK [])) s3.heap.objs.size cl fp
  show codeAny _ _ (.compStart (DCX kx vx t0 i0 f0 t1 i1 f1 scope pos) 0 (.ref it) (.ref D) (compEnvC scope cl s3.heap.objs.size X.env)) (compPost (model X.prog X.w) X.A X.xe use Qf (.ref D) s3.heap.objs.size) { s3 with heap := pushCells (s3.heap.push { cls := .type "dict", data := .dict #[] }) scope.names }
  have nfp : ∀ b ∈ fp, (upd H2 D (.dK [])) b = none := fun b hb => (f3 b hb).1.1
  generalize hce : compEnvC scope cl s3.heap.objs.size X.env = ce at I4 pg pt pI pg1 pt1 pk pv ⊢
  have cL : ce.locals = s3.heap.objs.size := by rw [← hce]; rfl
  generalize hH3 : upd H2 D (.dK []) = H3 at I3 I4 pg pt pI pg1 pt1 pk pv w0 nfp f3
  generalize hs4 : ({ s3 with heap := pushCells (s3.heap.push { cls := .type "dict", data := .dict #[] }) scope.names } : Shared) = s4 at I4 ⊢
  have st4 : tn 0 s4.heap := T.keep _ _ _ st3 fun b _ o e => hs4 ▸ pushCells_keeps _ _ _ _ (Heap.get?_push_of_some _ e)
  have stat : ∀ {σ' : L2.St} {H' : Hp} {s' : Shared}, Inv (X.blk s3 H3 scope ce fp) [] σ' H' s' → (∀ b ∈ fp, H' b = none) → ∀ b ∈ fp, FpOk (X.blk s3 H3 scope ce fp) [] H' b := fun {σ' H' s'} I' hn b hb =>
    ⟨hn b hb, (I'.ok.exf b hb).1, I'.ok.exfs b hb, .inl hb, fun x c e => (I'.ok.exf b hb).2 x c e, fun p hp => absurd (show p ∈ ([] : List (Addr × Obj)) ++ [] from hp) (by simp)⟩
  have loop : codeAny (model X.prog X.w) X.A (.compLoop (DCX kx vx t0 i0 f0 t1 i1 f1 scope pos) 0 (.ref it) (.ref D) ce) (compPost (model X.prog X.w) X.A X.xe use Qf (.ref D) s3.heap.objs.size) s4 := by
    refine loopD_out (hs1 ce) (fun n s' => ∃ i H', Inv (X.blk s3 H3 scope ce fp) [] (wipe σ (own.map (·.2))) H' s' ∧ tn i s'.heap ∧ (∀ b ∈ fp, H' b = none) ∧ W i n H') ?_ m0 ⟨0, H3, I4, st4, nfp, w0⟩
    rintro n s5 ⟨i, H5, I5, st5, n5, w5⟩
    rcases turn i n H5 w5 with ⟨stop, qq⟩ | ⟨go, Nx, hNx, step⟩
    · refine thnF (T.done (X.blk s3 H3 scope ce fp) rfl rfl rfl hc i [] s5 _ H5 (fun _ _ => False) I5 (stat I5 n5) st5 stop) fun r s6 ⟨hr, I6⟩ => ?_
      subst hr
      have I7 : Inv X pins σ H5 s6 := I3.call' (ch := fp) I6.os I6.base I6.hok I6.bare fun b hb => by
        obtain ⟨x1, x2, x3, x4, x5, x6⟩ := (f3 b hb).1
        exact ⟨x4, x2, x5, x6⟩
      have nC : H5 s3.heap.objs.size = none := cL ▸ (show H5 ce.locals = none from I6.free)
      obtain ⟨m, hn, _⟩ := I6.loc
      have hn : s6.heap.Ns ce.locals m := hn
      rw [cL] at hn
      exact hRR D _ s6 m H5 I7 qq hn (I3.fpOk (Nat.le_refl _) nC)
    · refine thnF (T.item (X.blk s3 H3 scope ce fp) rfl rfl rfl hc i [] s5 _ H5 (fun _ _ => False) I5 (stat I5 n5) st5 go) fun r s6 ⟨u, hr, h6⟩ => ?_
      subst hr
      refine thnF h6 fun _ s7 ⟨x, H7, I7, r7, y7, st7, n7⟩ => ?_
      refine thnF (pg.run _ s7 _ H7 x u _ (I7.pinned (stat I7 n7) (T.obj _ _ st7)) r7 (step x H7 y7)) fun _ s8 ⟨σ8, H8, I8, hw8, q8⟩ => ?_
      refine thnF (pt.run _ s8 σ8 H8 _ I8 q8) fun b s9 ⟨H9, I9, q9⟩ => ?_
      have fin : ∀ {σ9 : L2.St} {s' : Shared} {H' : Hp}, Inv (X.blk s3 H3 scope ce fp) ([] ++ pinsAt fp s7.heap) σ9 H' s' → (wipe σ (own.map (·.2))).length = σ9.length → (∀ (j : Nat) v, (wipe σ (own.map (·.2)))[j]? = some (some v) → σ9[j]? = some (some v)) → Nx H' →
          ∃ m, m < n ∧ ∃ i H', Inv (X.blk s3 H3 scope ce fp) [] (wipe σ (own.map (·.2))) H' s' ∧ tn i s'.heap ∧ (∀ b ∈ fp, H' b = none) ∧ W i m H' := fun {σ9 s' H'} I' hl hk nx => by
        obtain ⟨m', hm, w'⟩ := hNx H' nx
        have pin' : ∀ b ∈ fp, ∀ o, s7.heap.get? b = some o → s'.heap.get? b = some o ∧ H' b = none := fun b hb o e => by
          have z := I'.pin (b, o) (List.mem_append_right _ (List.mem_append_right _ (mem_pinsAt hb e)))
          exact ⟨z.1, z.2.1⟩
        refine ⟨m', hm, i + 1, H', (I'.unpinned (pins := [])).weak hl hk, T.keep _ _ _ st7 fun b hb o e => (pin' b hb o e).1, fun b hb => ?_, w'⟩
        obtain ⟨o, e, _⟩ := T.obj _ _ st7 b hb
        exact (pin' b hb o e).2
      have l8 : (wipe σ (own.map (·.2))).length = σ8.length := by rw [← hw8, wipe_length]
      have k8 : ∀ (j : Nat) v, (wipe σ (own.map (·.2)))[j]? = some (some v) → σ8[j]? = some (some v) := fun j v e => (wipe_some (vs := own.map (·.2)) (hw8 ▸ e)).1
      have k9 : ∀ (j : Nat) v, (wipe σ (own.map (·.2)))[j]? = some (some v) → (wipe σ8 vs1)[j]? = some (some v) := fun j v e => by
        obtain ⟨e1, e2⟩ := wipe_some (vs := own.map (·.2)) (hw8 ▸ e)
        rw [wipe_out fun z => e2 (hv j z)]
        exact e1
      cases b with
      | false =>
        simp only [Bool.false_eq_true, if_false] at q9 ⊢
        exact fin I9 l8 k8 q9
      | true =>
        simp only [if_true] at q9 ⊢
        refine thnF (pI.run _ s9 σ8 H9 _ I9 q9) fun xv s10 hx => thnF hx fun itv s11 h11 => ?_
        obtain ⟨it1, fp1, tn1, J1, H11, rfl, I11, T1, st11, f11, W1, ⟨m1, w1⟩, turn1⟩ := h11
        have stat1 : ∀ {H' : Hp}, (∀ b ∈ fp1, H' b = none) → ∀ b ∈ fp1, FpOk (X.blk s3 H3 scope ce fp) ([] ++ pinsAt fp s7.heap) H' b := fun hn b hb => ⟨hn b hb, (f11 b hb).2⟩
        have loop1 : codeAny (model X.prog X.w) X.A (.compLoop (DCX kx vx t0 i0 f0 t1 i1 f1 scope pos) 1 (.ref it1) (.ref D) ce)
            (fun r s' => match r with
              | .ok _ => ∃ m, m < n ∧ ∃ i H', Inv (X.blk s3 H3 scope ce fp) [] (wipe σ (own.map (·.2))) H' s' ∧ tn i s'.heap ∧ (∀ b ∈ fp, H' b = none) ∧ W i m H'
              | .error _ => False) s11 := by
          refine loopD_in (fun k s' => ∃ j H', Inv (X.blk s3 H3 scope ce fp) ([] ++ pinsAt fp s7.heap) (wipe σ8 vs1) H' s' ∧ tn1 j s'.heap ∧ (∀ b ∈ fp1, H' b = none) ∧ W1 j k H') ?_ m1
            ⟨0, H11, I11.weak (wipe_length _ _) (fun j v e => (wipe_some e).1), st11, fun b hb => (f11 b hb).1, w1⟩
          rintro k s12 ⟨j, H12, I12, st12, n12, w12⟩
          rcases turn1 j k H12 w12 with ⟨stop1, nx1⟩ | ⟨go1, Nx1, hNx1, step1⟩
          · refine thnF (T1.done (X.blk s3 H3 scope ce fp) rfl rfl rfl hc j _ s12 (wipe σ8 vs1) H12 (fun _ _ => False) I12 (stat1 n12) st12 stop1) fun r s13 ⟨hr, I13⟩ => ?_
            subst hr
            exact fin I13 (l8.trans (wipe_length σ8 vs1).symm) k9 nx1
          · refine thnF (T1.item (X.blk s3 H3 scope ce fp) rfl rfl rfl hc j _ s12 (wipe σ8 vs1) H12 (fun _ _ => False) I12 (stat1 n12) st12 go1) fun r s13 ⟨u1, hr, h13⟩ => ?_
            subst hr
            refine thnF h13 fun _ s14 ⟨x1, H14, I14, r14, y14, st14, n14⟩ => ?_
            refine thnF (pg1.run _ s14 (wipe σ8 vs1) H14 x1 u1 _ (I14.pinned (stat1 n14) (T1.obj _ _ st14)) r14 (step1 x1 H14 y14)) fun _ s15 ⟨σ15, H15, I15, hw15, q15⟩ => ?_
            refine thnF (pt1.run _ s15 σ15 H15 _ I15 q15) fun b1 s16 ⟨H16, I16, q16⟩ => ?_
            have fin1 : ∀ {s' : Shared} {H' : Hp}, Inv (X.blk s3 H3 scope ce fp) (([] ++ pinsAt fp s7.heap) ++ pinsAt fp1 s14.heap) σ15 H' s' → Nx1 H' →
                ∃ m, m < k ∧ ∃ j H', Inv (X.blk s3 H3 scope ce fp) ([] ++ pinsAt fp s7.heap) (wipe σ8 vs1) H' s' ∧ tn1 j s'.heap ∧ (∀ b ∈ fp1, H' b = none) ∧ W1 j m H' := fun {s' H'} I' nx => by
              obtain ⟨m', hm, w'⟩ := hNx1 H' nx
              have pin' : ∀ b ∈ fp1, ∀ o, s14.heap.get? b = some o → s'.heap.get? b = some o ∧ H' b = none := fun b hb o e => by
                have z := I'.pin (b, o) (List.mem_append_right _ (List.mem_append_right _ (mem_pinsAt hb e)))
                exact ⟨z.1, z.2.1⟩
              refine ⟨m', hm, j + 1, H', I'.unpinned.weak (by rw [← hw15, wipe_length]) (fun j v e => (wipe_some (vs := vs1) (hw15 ▸ e)).1), T1.keep _ _ _ st14 fun b hb o e => (pin' b hb o e).1, fun b hb => ?_, w'⟩
              obtain ⟨o, e, _⟩ := T1.obj _ _ st14 b hb
              exact (pin' b hb o e).2
            cases b1 with
            | false =>
              simp only [Bool.false_eq_true, if_false] at q16 ⊢
              exact fin1 I16 q16
            | true =>
              simp only [if_true] at q16 ⊢
              refine thnF (pk.run _ s16 σ15 H16 _ I16 q16) fun z s17 ⟨yk, H17, I17, r17, q17⟩ => ?_
              refine thnF (pv.run _ s17 σ15 H17 _ I17 q17) fun z2 s18 ⟨yv, H18, I18, r18, kvs, kk, ek, hD18, hz18, nx⟩ => ?_
              subst ek
              exact d_dictSet (X := X.blk s3 H3 scope ce fp) I18 hD18 hz18 r17 r18 fun s19 I19 => fin1 I19 nx
        exact startD1 loop1 (T1.self X.A 0 _ _ _ st11 loop1)
  exact codeAny_compStart_dict loop (T.self X.A 0 _ _ _ st4 loop)
theorem pe_dc2 {kx vx t0 i0 t1 i1 : Expr} {f0 f1 : List Expr} {scope : Scope} {own : List (Str × Nat)} {vs1 : List Nat} {pos : Pos} {wi wi1 : TI} {g g1 : TG} {tt tt1 : TT} {tk tv : TE} (hc : X.calm = true) (hN : X.N.Nodup) (hi : PI X t0 i0 wi) (ok : BlkOk X.N X.env.scope scope own) (hv : ∀ i ∈ vs1, i ∈ own.map (·.2))
    (B : Blk2 X kx vx t0 f0 t1 i1 f1 scope g tt wi1 g1 tt1 tk tv) (hs : ∀ x, foldedSetIterable i0 X.env x = pure x := by intro _; rfl) (hs1 : ∀ env x, foldedSetIterable i1 env x = pure x := by intro _ _; rfl) :
    PE X (.DictComp kx vx [⟨t0, i0, f0, 0⟩, ⟨t1, i1, f1, 0⟩] scope pos) (tDc2 wi g tt wi1 g1 tt1 tk tv (own.map (·.2)) vs1) := by
  refine ⟨fun pins s σ H Q I h => ?_⟩
  rw [arm_eval_DictComp]
  refine dc2_core hc hN I hi ok hv B hs hs1 h fun D C s' m H' I' q hn f => ⟨m, hn, fun h'' sb => ?_⟩
  obtain ⟨f0, f1, f2, f3, f4, f5⟩ := f
  exact ⟨.ref D, H', I'.turned (t' := s'.toks) (fun b o hb e => (sb.2 b hb).trans e) f0 f1 f3 f4 f5, rfl, q⟩
theorem sw_trueD {kx vx : Expr} {gs : List Comprehension} {scope : Scope} {pos py : Pos} {y : Str} {l : Nat} {env : Env} (hk : env.scope.kind = .function) (hy : env.scope.names.lookup y = some .local) (hl : (py.line == pos.line) = true)
    (ha : (scope.names.any fun (n, k) => n == y && (k == .local || k == .cell)) = false) : swapsWith (.DictComp kx vx gs scope pos) (some (.Name y py)) l env = pure true := by
  have ky : env.kindOf y = some .local := hy
  have hb : env.blockKind = .function := by unfold Env.blockKind; rw [hk]; rfl
  unfold swapsWith
  simp only [hb, ky, ha, Expr.pos, hl]
  rfl
theorem ps_setDc2 {i : Nat} {y : Str} {py spos : Pos} {kx vx t0 i0 t1 i1 : Expr} {f0 f1 : List Expr} {scope : Scope} {own : List (Str × Nat)} {vs1 : List Nat} {pos : Pos} {wi wi1 : TI} {g g1 : TG} {tt tt1 : TT} {tk tv : TE} (hc : X.calm = true) (hN : X.N.Nodup) (hy : X.N[i]? = some y) (hyl : X.env.scope.names.lookup y = some .local)
    (hsw : swapsWith (.DictComp kx vx [⟨t0, i0, f0, 0⟩, ⟨t1, i1, f1, 0⟩] scope pos) (some (.Name y py)) spos.line X.env = pure true) (hi : PI X t0 i0 wi) (ok : BlkOk X.N X.env.scope scope own) (hv : ∀ i ∈ vs1, i ∈ own.map (·.2))
    (B : Blk2 X kx vx t0 f0 t1 i1 f1 scope g tt wi1 g1 tt1 tk tv) (hs : ∀ x, foldedSetIterable i0 X.env x = pure x := by intro _; rfl) (hs1 : ∀ env x, foldedSetIterable i1 env x = pure x := by intro _ _; rfl) :
    PS X (.Assign [.Name y py] (.DictComp kx vx [⟨t0, i0, f0, 0⟩, ⟨t1, i1, f1, 0⟩] scope pos) spos) (tAsg (tDc2 wi g tt wi1 g1 tt1 tk tv (own.map (·.2)) vs1) (gName i)) := by
  refine ⟨fun pins s σ H D I h => ?_⟩
  rw [exec_Assign_Name_used _ _ _ _ hsw]
  refine wpAny_bind (wpAny_standAt (wpAny_bind ?_))
  show wpAny _ X.A (do let _ ← comprehension (.DictComp kx vx [⟨t0, i0, f0, 0⟩, ⟨t1, i1, f1, 0⟩] scope pos) scope X.env (firstIterPos [⟨t0, i0, f0, 0⟩, ⟨t1, i1, f1, 0⟩] pos) newDict false (eval i0 X.env) (some (assign (.Name y py) X.env))) _ _ s
  have h : tDc2 wi g tt wi1 g1 tt1 tk tv (own.map (·.2)) vs1 σ H (fun x H1 => gName i x σ H1 D.nx) := h
  refine wpAny_bind (thn (dc2_core (Qf := fun _ s' => SP X pins D .next s') hc hN I hi ok hv B hs hs1 h fun L C s' m H' I' q hn f => ?_) fun _ s' hq => wpAny_pure (wpAny_pure hq))
  show wpAny _ _ (assign (.Name y py) X.env (.ref L)) _ _ _
  refine wpAny_assign_Name (store_ok2 (v := V.ref L) I' hN hy (.inl hyl) rfl (fun s2 I2 ⟨a, sb, ha⟩ => ?_) (.inr hyl))
  obtain ⟨f0, f1, f2, f3, f4, f5⟩ := f
  have haC : C ≠ a := by
    rcases ha with z | z
    · rw [z]; exact f1
    · exact fun e => f4 y a z e.symm
  refine ⟨m, hn.sameBut sb haC, fun h3 sb3 => ?_⟩
  exact ⟨_, H', I2.turned (t' := s2.toks) (fun b o hb e => (sb3.2 b hb).trans e) f0 f1 f3 f4 f5, q⟩
end
end TW
set_option Elab.async false
set_option linter.all false
set_option maxRecDepth 100000
set_option maxHeartbeats 4000000
/-! the data layer: what is known of finished objects (F) beside the heap as it runs (H) -/
namespace TW
open PySem PySem.Spec PyProof.Rows L2
open Evl (Ex)

/-- what F knows stands in H; a dict may be locked there -/
def Sees (F H : Hp) : Prop := ∀ a o, F a = some o → H a = some o ∨ ∃ ob kvs, o = .dK kvs ∧ H a = some (.frz ob o)
/-- H and H' agree but at B -/
def ExB (B : List Addr) (H H' : Hp) : Prop := ∀ a o, a ∉ B → H a = some o → H' a = some o
/-- from (F, H) one came to (F', H'): finished objects stay, new ones are new, only those at B changed -/
structure Gr (B : List Addr) (F H F' H' : Hp) : Prop where
  ff : Ex F F'
  hh : ExB B H H'
  fh : Sees F' H'
  nw : ∀ p o, F' p = some o → F p = some o ∨ H p = none
  dm : ∀ p, H' p = none → H p = none
theorem Sees.dm {F H : Hp} (s : Sees F H) {p : Addr} (h : H p = none) : F p = none := by
  cases e : F p with
  | none => rfl
  | some o =>
    rcases s p o e with z | ⟨_, _, _, z⟩ <;> rw [h] at z <;> cases z
theorem Gr.refl {B : List Addr} {F H : Hp} (s : Sees F H) : Gr B F H F H := ⟨Ex.refl F, fun _ _ _ e => e, s, fun _ _ e => .inl e, fun _ e => e⟩
section
variable {B B' : List Addr} {F H F1 H1 F2 H2 : Hp} {p : Addr} {o : HO}
theorem Gr.trans (g : Gr B F H F1 H1) (k : Gr B' F1 H1 F2 H2) (hb : ∀ b ∈ B', b ∈ B ∨ H b = none := by intro b hb; exact absurd hb (by simp)) : Gr B F H F2 H2 where
  ff := g.ff.trans k.ff
  hh := fun a o ha e => k.hh a o (fun hm => (hb a hm).elim ha fun z => by rw [e] at z; cases z) (g.hh a o ha e)
  fh := k.fh
  nw := fun p o e => by
    rcases k.nw p o e with z | z
    · exact g.nw p o z
    · exact .inr (g.dm p z)
  dm := fun p e => g.dm p (k.dm p e)
/-- a new finished object -/
theorem Gr.new (g : Gr B F H F1 H1) (hp : H1 p = none) : Gr B F H (upd F1 p o) (upd H1 p o) := g.trans (B' := []) {
  ff := Ex.new (g.fh.dm hp)
  hh := fun a u _ e => Ex.new hp a u e
  fh := fun a u e => by
    by_cases ha : a = p
    · subst ha; rw [upd_same] at e ⊢; exact .inl e
    · rw [upd_ne ha] at e ⊢; exact g.fh a u e
  nw := fun a u e => by
    by_cases ha : a = p
    · subst ha; exact .inr hp
    · rw [upd_ne ha] at e; exact .inl e
  dm := fun a e => by
    by_cases ha : a = p
    · subst ha; rw [upd_same] at e; cases e
    · rw [upd_ne ha] at e; exact e }
/-- an unfinished object is new or changes -/
theorem Gr.mut (g : Gr B F H F1 H1) (hf : F1 p = none) (hb : p ∈ B ∨ H p = none) : Gr B F H F1 (upd H1 p o) where
  ff := g.ff
  hh := fun a u ha e => by
    have : a ≠ p := fun z => by subst z; exact hb.elim ha fun z => by rw [e] at z; cases z
    rw [upd_ne this]; exact g.hh a u ha e
  fh := fun a u e => by
    have : a ≠ p := fun z => by subst z; rw [e] at hf; cases hf
    rw [upd_ne this]; exact g.fh a u e
  nw := g.nw
  dm := fun a e => by
    by_cases ha : a = p
    · subst ha; rw [upd_same] at e; cases e
    · rw [upd_ne ha] at e; exact g.dm a e
theorem Gr.newM (g : Gr B F H F1 H1) (hp : H1 p = none) : Gr B F H F1 (upd H1 p o) := g.mut (g.fh.dm hp) (.inr (g.dm p hp))
/-- an object of ours is finished -/
theorem Gr.done (g : Gr B F H F1 H1) (hn : H p = none) (hf : F1 p = none) (h1 : H1 p = some o) : Gr B F H (upd F1 p o) H1 where
  ff := g.ff.trans (Ex.new hf)
  hh := g.hh
  fh := fun a u e => by
    by_cases ha : a = p
    · subst ha; rw [upd_same] at e; cases e; exact .inl h1
    · rw [upd_ne ha] at e; exact g.fh a u e
  nw := fun a u e => by
    by_cases ha : a = p
    · subst ha; exact .inr hn
    · rw [upd_ne ha] at e; exact g.nw a u e
  dm := g.dm
theorem Gr.mono (g : Gr B F H F1 H1) (hb : ∀ b ∈ B, b ∈ B' ∨ H b = none) : Gr B' F H F1 H1 :=
  ⟨g.ff, fun a o ha e => g.hh a o (fun hm => (hb a hm).elim ha fun z => by rw [e] at z; cases z) e, g.fh, g.nw, g.dm⟩
theorem Gr.none' (g : Gr B F H F1 H1) (hf : F p = none) (hp : H p ≠ none) : F1 p = none := by
  cases e : F1 p with
  | none => rfl
  | some o =>
    rcases g.nw p o e with z | z
    · rw [hf] at z; cases z
    · exact absurd z hp
theorem Gr.at (g : Gr B F H F1 H1) (e : H p = some o) (hb : p ∉ B := by simp) : H1 p = some o := g.hh p o hb e
end

/-! ### data that stays -/
section
variable {K : PySem.W.Frag} {F H : Hp}
theorem ex_sees (e : Ex F H) : Sees F H := fun a o h => .inl (e a o h)
theorem sees_rdL {a : Addr} {xs : List V} (s : Sees F H) (h : Rd F a (.lst xs)) : Rd H a (.lst xs) := by
  rcases h with h | ⟨o, h⟩
  · rcases s a _ h with z | ⟨_, _, z, _⟩
    · exact .inl z
    · cases z
  · rcases s a _ h with z | ⟨_, _, z, _⟩
    · exact .inr ⟨o, z⟩
    · cases z
theorem sees_rdT {a : Addr} {xs : List V} (s : Sees F H) (h : Rd F a (.tup xs)) : Rd H a (.tup xs) := by
  rcases h with h | ⟨o, h⟩
  · rcases s a _ h with z | ⟨_, _, z, _⟩
    · exact .inl z
    · cases z
  · rcases s a _ h with z | ⟨_, _, z, _⟩
    · exact .inr ⟨o, z⟩
    · cases z
theorem sees_l {a : Addr} {xs : List V} (s : Sees F H) (h : SqL K F a xs) : SqL K H a xs := h.imp (sees_rdL s) id
theorem sees_t {a : Addr} {xs : List V} (s : Sees F H) (h : SqT K F a xs) : SqT K H a xs := h.imp (sees_rdT s) id
theorem sees_d {a : Addr} {kvs : List (Key × V)} (s : Sees F H) (h : F a = some (.dK kvs)) : Rd H a (.dK kvs) := by
  rcases s a _ h with z | ⟨ob, _, z, q⟩
  · exact .inl z
  · cases z; exact .inr ⟨ob, q⟩
theorem sees_i {a C dx : Addr} {fs : List (Str × V)} (s : Sees F H) (h : F a = some (.ins C dx fs)) : H a = some (.ins C dx fs) := by
  rcases s a _ h with z | ⟨_, _, z, _⟩
  · exact z
  · cases z
end
end TW
namespace L2
open PySem PySem.Spec PyProof.Rows TW
open Evl (Ex)
section
variable {K : PySem.W.Frag} {F H : Hp}
mutual
theorem Dp.sees (s : Sees F H) : ∀ {d : PyData} {v : V}, Dp K F v d → Dp K H v d
  | _, _, .non => .non
  | _, _, .bl b => .bl b
  | _, _, .int i => .int i
  | _, _, .str x => .str x
  | _, _, .lst h q => .lst (sees_l s h) (DpAll.sees s q)
  | _, _, .tup h q => .tup (sees_t s h) (DpAll.sees s q)
theorem DpAll.sees (s : Sees F H) : ∀ {ds : List PyData} {vs : List V}, DpAll K F vs ds → DpAll K H vs ds
  | _, _, .nil => .nil
  | _, _, .cons h q => .cons (Dp.sees s h) (DpAll.sees s q)
end
theorem Dp.ex {d : PyData} {v : V} (h : Dp K F v d) (e : Ex F H) : Dp K H v d := Dp.sees (ex_sees e) h
theorem DpAll.ex {ds : List PyData} {vs : List V} (h : DpAll K F vs ds) (e : Ex F H) : DpAll K H vs ds := DpAll.sees (ex_sees e) h
theorem DpAll.length : ∀ {vs : List V} {ds : List PyData}, DpAll K F vs ds → vs.length = ds.length
  | _, _, .nil => rfl
  | _, _, .cons _ q => congrArg (· + 1) (DpAll.length q)
theorem DpAll.get : ∀ {vs : List V} {ds : List PyData} {i : Nat} {v : V}, DpAll K F vs ds → vs[i]? = some v → ∃ d, ds[i]? = some d ∧ Dp K F v d
  | _, _, 0, _, .cons h q, e => by simp at e; subst e; exact ⟨_, rfl, h⟩
  | _, _, i + 1, _, .cons h q, e => by
    obtain ⟨d, h1, h2⟩ := DpAll.get (i := i) q (by simpa using e)
    exact ⟨d, by simpa using h1, h2⟩
theorem DpAll.getD : ∀ {vs : List V} {ds : List PyData} {i : Nat} {d : PyData}, DpAll K F vs ds → ds[i]? = some d → ∃ v, vs[i]? = some v ∧ Dp K F v d
  | _, _, 0, _, .cons h q, e => by simp at e; subst e; exact ⟨_, rfl, h⟩
  | _, _, i + 1, _, .cons h q, e => by
    obtain ⟨d, h1, h2⟩ := DpAll.getD (i := i) q (by simpa using e)
    exact ⟨d, by simpa using h1, h2⟩
theorem DpAll.append : ∀ {vs ws : List V} {ds es : List PyData}, DpAll K F vs ds → DpAll K F ws es → DpAll K F (vs ++ ws) (ds ++ es)
  | _, _, _, _, .nil, q => q
  | _, _, _, _, .cons h t, q => .cons h (DpAll.append t q)
end
end L2
namespace TW
open PySem PySem.Spec PyProof.Rows L2
open Evl (Ex)
section
variable {K : PySem.W.Frag} {F H : Hp}
theorem dp_int {v : V} {i : Int} : Dp K F v (.int i) ↔ v = .int i := ⟨fun h => by cases h; rfl, fun h => by rw [h]; exact .int i⟩
theorem dp_str {v : V} {x : Str} : Dp K F v (.str x) ↔ v = .str x := ⟨fun h => by cases h; rfl, fun h => by rw [h]; exact .str x⟩
theorem dp_bl {v : V} {b : Bool} : Dp K F v (.bool b) ↔ v = .bl b := ⟨fun h => by cases h; rfl, fun h => by rw [h]; exact .bl b⟩
theorem dps_int : ∀ {l : List Int} {vs : List V}, DpAll K F vs (l.map .int) ↔ vs = l.map V.int
  | [], vs => ⟨fun h => by cases h; rfl, fun h => by rw [h]; exact .nil⟩
  | i :: l, vs => ⟨fun h => by
      cases h with
      | cons h q => rw [dp_int.mp h, dps_int.mp q]; rfl, fun h => by rw [h]; exact .cons (.int i) (dps_int.mpr rfl)⟩
theorem dps_str : ∀ {l : List Str} {vs : List V}, DpAll K F vs (l.map .str) ↔ vs = l.map V.str
  | [], vs => ⟨fun h => by cases h; rfl, fun h => by rw [h]; exact .nil⟩
  | i :: l, vs => ⟨fun h => by
      cases h with
      | cons h q => rw [dp_str.mp h, dps_str.mp q]; rfl, fun h => by rw [h]; exact .cons (.str i) (dps_str.mpr rfl)⟩
theorem dps_bl : ∀ {l : List Bool} {vs : List V}, DpAll K F vs (l.map .bool) ↔ vs = l.map V.bl
  | [], vs => ⟨fun h => by cases h; rfl, fun h => by rw [h]; exact .nil⟩
  | i :: l, vs => ⟨fun h => by
      cases h with
      | cons h q => rw [dp_bl.mp h, dps_bl.mp q]; rfl, fun h => by rw [h]; exact .cons (.bl i) (dps_bl.mpr rfl)⟩
theorem dp_list {v : V} {ds : List PyData} (h : Dp K F v (.list ds)) : ∃ a xs, v = .ref a ∧ SqL K F a xs ∧ DpAll K F xs ds := by
  cases h with
  | lst h q => exact ⟨_, _, rfl, h, q⟩
theorem dp_tup {v : V} {ds : List PyData} (h : Dp K F v (.tuple ds)) : ∃ a xs, v = .ref a ∧ SqT K F a xs ∧ DpAll K F xs ds := by
  cases h with
  | tup h q => exact ⟨_, _, rfl, h, q⟩
/-- a list or a tuple -/
def isSeq (d : PyData) (ds : List PyData) : Prop := d = .list ds ∨ d = .tuple ds
theorem dp_seq {v : V} {d : PyData} {ds : List PyData} (h : Dp K F v d) (q : isSeq d ds) : ∃ a xs, v = .ref a ∧ (SqL K F a xs ∨ SqT K F a xs) ∧ DpAll K F xs ds := by
  rcases q with rfl | rfl
  · obtain ⟨a, xs, e, h1, h2⟩ := dp_list h
    exact ⟨a, xs, e, .inl h1, h2⟩
  · obtain ⟨a, xs, e, h1, h2⟩ := dp_tup h
    exact ⟨a, xs, e, .inr h1, h2⟩
/-- a list of ours of such items is data when it is finished -/
theorem dp_newL {F' : Hp} {p : Addr} {ys : List V} {ds : List PyData} (h : DpAll K F ys ds) (e : Ex F F') (hp : F' p = some (.lst ys)) : Dp K F' (.ref p) (.list ds) := .lst (.inl (.inl hp)) (h.ex e)
theorem dp_newT {F' : Hp} {p : Addr} {ys : List V} {ds : List PyData} (h : DpAll K F ys ds) (e : Ex F F') (hp : F' p = some (.tup ys)) : Dp K F' (.ref p) (.tuple ds) := .tup (.inl (.inl hp)) (h.ex e)
end

/-! ### what is walked: a list or a tuple -/
section
variable {X : Cx} {tg : Expr}
theorem PI.or {e : Expr} {wi wi' : TI} (h : PI X tg e wi) (h' : PI X tg e wi') : PI X tg e (fun σ H R => wi σ H R ∨ wi' σ H R) :=
  ⟨fun pins s σ H R I q => q.elim (fun q => h.run pins s σ H R I q) fun q => h'.run pins s σ H R I q⟩
/-- what walks a list or a tuple of the items xs, as long as F is seen -/
structure rSeq (K : PySem.W.Frag) (x : V) (H1 : Hp) (R : It → Hp → Prop) : Prop where
  r : ∃ (a : Addr) (xs : List V), x = .ref a ∧ ((SqL K H1 a xs ∧ R (Itl K a) H1) ∨ (SqT K H1 a xs ∧ R (Itt K a) H1))
def iSeq (K : PySem.W.Frag) (te : TE) : TI := fun σ H R => te σ H fun x H1 => rSeq K x H1 R
theorem pi_seq {e : Expr} {te : TE} (he : PE X e te) : PI X tg e (iSeq X.K te) := by
  refine ⟨fun pins s σ H R I h => thn (he.run pins s σ H _ I h) fun v s1 hv => ?_⟩
  obtain ⟨x, H1, I1, r1, ⟨a, xs, rfl, q⟩⟩ := hv
  cases r1
  have fp : ∀ b ∈ [s1.heap.objs.size], FpOk X pins H1 b := fun b hb => by
    rw [List.mem_singleton.mp hb]
    exact I1.fpOk (Nat.le_refl _) (I1.hok.fresh (Nat.le_refl _))
  have kp : ∀ {o : Obj}, Inv X pins σ H1 { s1 with heap := s1.heap.push o } := fun {o} => I1.kept (t' := s1.toks) fun b u e => Heap.get?_push_of_some _ e
  rcases q with ⟨hq, q⟩ | ⟨hq, q⟩
  · obtain ⟨its, _, pl, _⟩ := I1.list hq
    exact wpAny_pyIter_list pl.isList ⟨_, [s1.heap.objs.size], _, _, H1, rfl, kp, turn_list a _, ⟨_, Heap.get?_push_size _ rfl, rfl, rfl⟩, fp, q⟩
  · obtain ⟨its, _, pl, _⟩ := I1.tuple hq
    exact wpAny_pyIter_tuple (show s1.heap.IsTuple a its.toArray from pl) ⟨_, [s1.heap.objs.size], _, _, H1, rfl, kp, turn_tuple a _, ⟨_, Heap.get?_push_size _ rfl, rfl, rfl⟩, fp, q⟩
end
end TW
set_option Elab.async false
set_option linter.all false
set_option maxRecDepth 100000
set_option maxHeartbeats 4000000
/-! comprehensions whose turns leave all finished objects as they are -/
namespace TW
open PySem PySem.Spec PyProof.Rows L2
open Evl (Ex)

/-- what a comprehension's walk must show (its list at D) -/
abbrev LcW (J : It) (g : TG) (tt : TT) (te : TE) (vs : List Nat) (σ : L2.St) (H1 : Hp) (D : Addr) (Qd : Hp → Prop) : Prop := ∃ W : Nat → Nat → Hp → Prop, (∃ m, W 0 m (upd H1 D (.lst []))) ∧ ∀ i m H, W i m H →
  (J.stop i H ∧ Qd H) ∨ (J.go i H ∧ ∃ Nx : Hp → Prop, (∀ H', Nx H' → ∃ m', m' < m ∧ W (i + 1) m' H') ∧ ∀ x H', J.yld i H x H' → g x (wipe σ vs) H' fun σ2 H2 => wipe σ2 vs = wipe σ vs ∧ tt σ2 H2 fun b H3 =>
    if b = true then te σ2 H3 fun y H4 => ∃ acc, H4 D = some (.lst acc) ∧ acc.length < sizeLine ∧ Nx (upd H4 D (.lst (acc ++ [y]))) else Nx H3)
/-- a turn: the item x stored, tested (b), the element made (R) -/
def TurnP (B : List Addr) (g : TG) (tt : TT) (te : TE) (vs : List Nat) (σ : L2.St) (x : V) (F H : Hp) (b : Bool) (R : V → Hp → Hp → Prop) (R0 : Hp → Hp → Prop := fun _ _ => True) : Prop :=
  ∀ (Yes : V → Hp → Prop) (No : Hp → Prop), (b = false → ∀ F3 H3, Gr B F H F3 H3 → R0 F3 H3 → No H3) → (b = true → ∀ y F3 H3, Gr B F H F3 H3 → R y F3 H3 → Yes y H3) →
    g x (wipe σ vs) H fun σ2 H2 => wipe σ2 vs = wipe σ vs ∧ tt σ2 H2 fun b H3 => if b = true then te σ2 H3 Yes else No H3
section
variable {K : PySem.W.Frag} {J : It} {n : Nat} {G : Hp → Prop} {Y : Nat → Hp → V → Hp → Prop} {g : TG} {tt : TT} {te : TE} {vs : List Nat} {σ : L2.St} {F H1 : Hp} {D : Addr} {Qd : Hp → Prop}
/-- no test -/
theorem yesI {σ : L2.St} {H : Hp} {A B : Hp → Prop} (h : A H) : tYes σ H fun b H3 => if b = true then A H3 else B H3 := by
  show if true = true then A H else B H
  rw [if_pos rfl]
  exact h
/-- a turn with no test, the target a name -/
theorem turn1 {B : List Addr} {i : Nat} {x : V} {F H : Hp} {R : V → Hp → Hp → Prop} {R0 : Hp → Hp → Prop} {te : TE} {vs : List Nat} {σ : L2.St} (hw : wipe ((wipe σ vs).set i (some x)) vs = wipe σ vs)
    (h : ∀ Yes : V → Hp → Prop, (∀ y F3 H3, Gr B F H F3 H3 → R y F3 H3 → Yes y H3) → te ((wipe σ vs).set i (some x)) H Yes) : TurnP B (gName i) tYes te vs σ x F H true R R0 := fun Yes No _ h1 => ⟨hw, show if true = true then _ else No H from (if_pos rfl) ▸ h Yes (h1 rfl)⟩
/-- a comprehension with a state of its own (Pv: turn, what is made, finished objects, heap) -/
theorem lc_st {B : List Addr} (w : Walk J n G Y) (sees : Sees F H1) (hB : ∀ b ∈ B, H1 b ≠ none) (Pv : Nat → List V → Hp → Hp → Prop) (hP : ∀ i acc F' H' D o, Pv i acc F' H' → H1 D = none → Pv i acc F' (upd H' D o))
    (hG : ∀ i acc F' H', i ≤ n → Gr B F H1 F' H' → Pv i acc F' H' → G H') (h0 : Pv 0 [] F H1) (hz : n ≤ 100000)
    (hs : ∀ i acc x F' H' H'', i < n → acc.length ≤ i → Gr B F H1 F' H' → Pv i acc F' H' → Y i H' x H'' → ∃ F'', Gr B F' H' F'' H'' ∧ ∃ b, TurnP B g tt te vs σ x F'' H'' b (fun y F3 H3 => Pv (i + 1) (acc ++ [y]) F3 H3) (fun F3 H3 => Pv (i + 1) acc F3 H3))
    (hD : H1 D = none) (q : ∀ acc F' H', Gr B F H1 F' H' → F' D = none → H' D = some (.lst acc) → Pv n acc F' H' → Qd H') : LcW J g tt te vs σ H1 D Qd := by
  have lz : 100000 < sizeLine := by rw [sizeLine_eq]; decide
  have nB : D ∉ B := fun h => hB D h hD
  refine lc_it w (fun i H' => ∃ acc F', acc.length ≤ i ∧ Gr B F H1 F' H' ∧ F' D = none ∧ H' D = some (.lst acc) ∧ Pv i acc F' H')
    ⟨[], F, Nat.le_refl _, (Gr.refl sees).newM hD, sees.dm hD, upd_same, hP _ _ _ _ _ _ h0 hD⟩ (fun i H' hi ⟨acc, F', _, gr, _, _, p⟩ => hG i acc F' H' hi gr p) (fun i x H' H'' hi ⟨acc, F', hl, gr, fD, hDc, p⟩ hy => ?_) fun H' ⟨acc, F', _, gr, fD, hDc, p⟩ => q acc F' H' gr fD hDc p
  obtain ⟨F'', g1, b, t⟩ := hs i acc x F' H' H'' hi hl gr p hy
  have g1' := gr.trans g1 fun b hb => .inl hb
  have nn : H' D ≠ none := by rw [hDc]; exact fun z => nomatch z
  refine t _ _ (fun _ F3 H3 g3 p3 => ⟨acc, F3, by omega, g1'.trans g3 fun b hb => .inl hb, ?_, ?_, p3⟩) fun _ y F3 H3 g3 p3 => ⟨acc, ?_, by omega, acc ++ [y], F3, by simp; omega, (g1'.trans g3 fun b hb => .inl hb).mut ?_ (.inr hD), ?_, upd_same, hP _ _ _ _ _ _ p3 hD⟩
  · exact (g1.trans g3 fun b hb => .inl hb).none' fD nn
  · exact (g1.trans g3 fun b hb => .inl hb).hh D _ nB hDc
  · exact (g1.trans g3 fun b hb => .inl hb).hh D _ nB hDc
  · exact (g1.trans g3 fun b hb => .inl hb).none' fD nn
  · exact (g1.trans g3 fun b hb => .inl hb).none' fD nn
/-- a comprehension that changes nothing: of the items bs those with p, made to f -/
theorem lc_pureG {β : Type} {bs : List β} {p : β → Bool} {f : β → PyData} {Im : β → V → Hp → Prop} (w : Walk J bs.length G Y) (sees : Sees F H1) (hG : ∀ F' H', Gr [] F H1 F' H' → G H') (hz : bs.length ≤ 100000)
    (hY : ∀ i b x F' H' H'', bs[i]? = some b → Gr [] F H1 F' H' → Y i H' x H'' → ∃ F'', Gr [] F' H' F'' H'' ∧ Im b x F'')
    (hs : ∀ b x F' H', b ∈ bs → Gr [] F H1 F' H' → Im b x F' → TurnP [] g tt te vs σ x F' H' (p b) (fun y F3 _ => Dp K F3 y (f b)))
    (hD : H1 D = none) (q : ∀ acc F' H', Gr [] F H1 F' H' → F' D = none → H' D = some (.lst acc) → DpAll K F' acc ((bs.filter p).map f) → Qd H') : LcW J g tt te vs σ H1 D Qd := by
  refine lc_st (B := []) w sees (fun _ h => absurd h (by simp)) (fun i acc F' H' => DpAll K F' acc (((bs.take i).filter p).map f)) (fun _ _ _ _ _ _ h _ => h) (fun i acc F' H' _ gr _ => hG F' H' gr) .nil hz
    (fun i acc x F' H' H'' hi _ gr pv hy => ?_) hD fun acc F' H' gr fD hDc pv => q acc F' H' gr fD hDc (by rw [List.take_length] at pv; exact pv)
  have hb : bs[i]? = some bs[i] := List.getElem?_eq_getElem hi
  obtain ⟨F'', g1, im⟩ := hY i bs[i] x F' H' H'' hb gr hy
  have tk : (bs.take (i + 1)) = bs.take i ++ [bs[i]] := by rw [List.take_add_one, hb]; rfl
  have t := hs bs[i] x F'' H'' (List.getElem_mem hi) (gr.trans g1) im
  refine ⟨F'', g1, p bs[i], fun Yes No h0 h1 => t Yes No (fun hb F3 H3 g3 _ => h0 hb F3 H3 g3 ?_) fun hb y F3 H3 g3 r => h1 hb y F3 H3 g3 ?_⟩
  · rw [tk, List.filter_append]
    simp [hb, pv.ex (g1.ff.trans g3.ff)]
  · rw [tk, List.filter_append, List.map_append]
    simp [hb]
    exact (pv.ex (g1.ff.trans g3.ff)).append (.cons r .nil)
theorem sees_gr {F' H' : Hp} (g : Gr [] F H1 F' H') : Sees F H' := fun a o e => g.fh a o (g.ff a o e)
theorem lc_pure {β : Type} {bs : List β} {p : β → Bool} {f : β → PyData} {Im : β → V → Hp → Prop} (w : Walk J bs.length G Y) (sees : Sees F H1) (hG : ∀ H', Sees F H' → G H') (hz : bs.length ≤ 100000)
    (hY : ∀ i b x F' H' H'', bs[i]? = some b → Gr [] F H1 F' H' → Y i H' x H'' → ∃ F'', Gr [] F' H' F'' H'' ∧ Im b x F'')
    (hs : ∀ b x F' H', b ∈ bs → Gr [] F H1 F' H' → Im b x F' → TurnP [] g tt te vs σ x F' H' (p b) (fun y F3 _ => Dp K F3 y (f b)))
    (hD : H1 D = none) (q : ∀ acc F' H', Gr [] F H1 F' H' → F' D = none → H' D = some (.lst acc) → DpAll K F' acc ((bs.filter p).map f) → Qd H') : LcW J g tt te vs σ H1 D Qd :=
  lc_pureG w sees (fun F' H' gr => hG H' (sees_gr gr)) hz hY hs hD q
/-- .. with no test -/
theorem lc_mapG {β : Type} {bs : List β} {f : β → PyData} {Im : β → V → Hp → Prop} (w : Walk J bs.length G Y) (sees : Sees F H1) (hG : ∀ F' H', Gr [] F H1 F' H' → G H') (hz : bs.length ≤ 100000)
    (hY : ∀ i b x F' H' H'', bs[i]? = some b → Gr [] F H1 F' H' → Y i H' x H'' → ∃ F'', Gr [] F' H' F'' H'' ∧ Im b x F'')
    (hs : ∀ b x F' H', b ∈ bs → Gr [] F H1 F' H' → Im b x F' → TurnP [] g tt te vs σ x F' H' true (fun y F3 _ => Dp K F3 y (f b)))
    (hD : H1 D = none) (q : ∀ acc F' H', Gr [] F H1 F' H' → F' D = none → H' D = some (.lst acc) → DpAll K F' acc (bs.map f) → Qd H') : LcW J g tt te vs σ H1 D Qd :=
  lc_pureG (K := K) (p := fun _ => true) (f := f) w sees hG hz hY hs hD fun acc F' H' g1 fD hDc h => q acc F' H' g1 fD hDc (by rw [List.filter_eq_self.mpr (fun _ _ => rfl)] at h; exact h)
theorem lc_map {β : Type} {bs : List β} {f : β → PyData} {Im : β → V → Hp → Prop} (w : Walk J bs.length G Y) (sees : Sees F H1) (hG : ∀ H', Sees F H' → G H') (hz : bs.length ≤ 100000)
    (hY : ∀ i b x F' H' H'', bs[i]? = some b → Gr [] F H1 F' H' → Y i H' x H'' → ∃ F'', Gr [] F' H' F'' H'' ∧ Im b x F'')
    (hs : ∀ b x F' H', b ∈ bs → Gr [] F H1 F' H' → Im b x F' → TurnP [] g tt te vs σ x F' H' true (fun y F3 _ => Dp K F3 y (f b)))
    (hD : H1 D = none) (q : ∀ acc F' H', Gr [] F H1 F' H' → F' D = none → H' D = some (.lst acc) → DpAll K F' acc (bs.map f) → Qd H') : LcW J g tt te vs σ H1 D Qd :=
  lc_mapG w sees (fun F' H' gr => hG H' (sees_gr gr)) hz hY hs hD q
/-- .. of truth values -/
theorem lc_boolsG (K : PySem.W.Frag) {β : Type} {bs : List β} {f : β → Bool} {Im : β → V → Hp → Prop} (w : Walk J bs.length G Y) (sees : Sees F H1) (hG : ∀ F' H', Gr [] F H1 F' H' → G H') (hz : bs.length ≤ 100000)
    (hY : ∀ i b x F' H' H'', bs[i]? = some b → Gr [] F H1 F' H' → Y i H' x H'' → ∃ F'', Gr [] F' H' F'' H'' ∧ Im b x F'')
    (hs : ∀ b x F' H', b ∈ bs → Gr [] F H1 F' H' → Im b x F' → TurnP [] g tt te vs σ x F' H' true (fun y F3 _ => y = .bl (f b)))
    (hD : H1 D = none) (q : ∀ F' H', Gr [] F H1 F' H' → F' D = none → H' D = some (.lst ((bs.map f).map V.bl)) → Qd H') : LcW J g tt te vs σ H1 D Qd :=
  lc_mapG (K := K) (f := fun b => .bool (f b)) w sees hG hz hY (fun b x F' H' hb g1 im Yes No h0 h1 => hs b x F' H' hb g1 im Yes No h0 fun hb y F3 H3 g3 r => h1 hb y F3 H3 g3 (by rw [r]; exact .bl _)) hD fun acc F' H' g1 fD hDc h => by
    have e : bs.map (fun b => PyData.bool (f b)) = (bs.map f).map PyData.bool := by rw [List.map_map]; rfl
    rw [e, dps_bl] at h
    rw [h] at hDc
    exact q F' H' g1 fD hDc
theorem lc_bools (K : PySem.W.Frag) {β : Type} {bs : List β} {f : β → Bool} {Im : β → V → Hp → Prop} (w : Walk J bs.length G Y) (sees : Sees F H1) (hG : ∀ H', Sees F H' → G H') (hz : bs.length ≤ 100000)
    (hY : ∀ i b x F' H' H'', bs[i]? = some b → Gr [] F H1 F' H' → Y i H' x H'' → ∃ F'', Gr [] F' H' F'' H'' ∧ Im b x F'')
    (hs : ∀ b x F' H', b ∈ bs → Gr [] F H1 F' H' → Im b x F' → TurnP [] g tt te vs σ x F' H' true (fun y F3 _ => y = .bl (f b)))
    (hD : H1 D = none) (q : ∀ F' H', Gr [] F H1 F' H' → F' D = none → H' D = some (.lst ((bs.map f).map V.bl)) → Qd H') : LcW J g tt te vs σ H1 D Qd :=
  lc_boolsG K w sees (fun F' H' gr => hG H' (sees_gr gr)) hz hY hs hD q
end
/-! ### a dict is locked while it is walked -/
section
variable {F H F' H' : Hp} {d : Addr} {od : Obj} {kvs : List (Key × V)}
theorem sees_lock (s : Sees F H) (hF : F d = some (.dK kvs)) : Sees F (upd H d (.frz od (.dK kvs))) := fun a o e => by
  by_cases h : a = d
  · subst h
    rw [hF] at e
    cases e
    exact .inr ⟨od, kvs, rfl, upd_same⟩
  · rw [upd_ne h]; exact s a o e
theorem Gr.unlock (hF : F d = some (.dK kvs)) (h : H d = some (.dK kvs)) (g : Gr [] F (upd H d (.frz od (.dK kvs))) F' H') : Gr [] F H F' (upd H' d (.dK kvs)) where
  ff := g.ff
  hh := fun a o ha e => by
    by_cases z : a = d
    · subst z
      rw [h] at e
      rw [upd_same]; exact e
    · rw [upd_ne z]; exact g.hh a o ha (by rw [upd_ne z]; exact e)
  fh := fun a o e => by
    by_cases z : a = d
    · subst z
      have z2 := g.ff _ _ hF
      rw [z2] at e
      exact .inl (by rw [upd_same]; exact e)
    · rw [upd_ne z]; exact g.fh a o e
  nw := fun p o e => by
    rcases g.nw p o e with z | z
    · exact .inl z
    · refine .inr ?_
      by_cases y : p = d
      · subst y; rw [upd_same] at z; cases z
      · rw [upd_ne y] at z; exact z
  dm := fun p e => by
    by_cases y : p = d
    · subst y; rw [upd_same] at e; cases e
    · rw [upd_ne y] at e
      have z := g.dm p e
      rw [upd_ne y] at z; exact z
end
/-! ### dict comprehensions -/
section
variable {K : PySem.W.Frag} {J : It} {n : Nat} {G : Hp → Prop} {Y : Nat → Hp → V → Hp → Prop} {g : TG} {tt : TT} {tk tv : TE} {vs : List Nat} {σ : L2.St} {F H1 : Hp} {D : Addr} {Qd : Hp → Prop}
abbrev DcW (J : It) (g : TG) (tt : TT) (tk tv : TE) (vs : List Nat) (σ : L2.St) (H1 : Hp) (D : Addr) (Qd : Hp → Prop) : Prop := ∃ W : Nat → Nat → Hp → Prop, (∃ m, W 0 m (upd H1 D (.dK []))) ∧ ∀ i m H, W i m H →
  (J.stop i H ∧ Qd H) ∨ (J.go i H ∧ ∃ Nx : Hp → Prop, (∀ H', Nx H' → ∃ m', m' < m ∧ W (i + 1) m' H') ∧ ∀ x H', J.yld i H x H' → g x (wipe σ vs) H' fun σ2 H2 => wipe σ2 vs = wipe σ vs ∧ tt σ2 H2 fun b H3 =>
    if b = true then tk σ2 H3 fun y H4 => tv σ2 H4 fun z H5 => ∃ kvs k, y = kV k ∧ H5 D = some (.dK kvs) ∧ kvs.length < sizeLine ∧ Nx (upd H5 D (.dK (putK kvs k z))) else Nx H3)
/-- a turn that stores k: z -/
def TurnD (B : List Addr) (g : TG) (tt : TT) (tk tv : TE) (vs : List Nat) (σ : L2.St) (x : V) (F H : Hp) (R : Key → V → Hp → Hp → Prop) : Prop :=
  ∀ (Yes : V → V → Hp → Prop) (No : Hp → Prop), (∀ k z F3 H3, Gr B F H F3 H3 → R k z F3 H3 → Yes (kV k) z H3) →
    g x (wipe σ vs) H fun σ2 H2 => wipe σ2 vs = wipe σ vs ∧ tt σ2 H2 fun b H3 => if b = true then tk σ2 H3 fun y H4 => tv σ2 H4 fun z H5 => Yes y z H5 else No H3
theorem turnD1 {B : List Addr} {i : Nat} {x : V} {F H : Hp} {R : Key → V → Hp → Hp → Prop} {tk tv : TE} {vs : List Nat} {σ : L2.St} (hw : wipe ((wipe σ vs).set i (some x)) vs = wipe σ vs)
    (h : ∀ Yes : V → V → Hp → Prop, (∀ k z F3 H3, Gr B F H F3 H3 → R k z F3 H3 → Yes (kV k) z H3) → tk ((wipe σ vs).set i (some x)) H fun y H4 => tv ((wipe σ vs).set i (some x)) H4 fun z H5 => Yes y z H5) : TurnD B (gName i) tYes tk tv vs σ x F H R :=
  fun Yes No h1 => ⟨hw, show if true = true then _ else No H from (if_pos rfl) ▸ h Yes h1⟩
theorem dc_st (w : Walk J n G Y) (sees : Sees F H1) (Pv : Nat → List (Key × V) → Hp → Hp → Prop) (hP : ∀ i acc F' H' o, Pv i acc F' H' → H1 D = none → F' D = none → Pv i acc F' (upd H' D o))
    (hG : ∀ i acc F' H', i ≤ n → Gr [] F H1 F' H' → Pv i acc F' H' → G H') (h0 : Pv 0 [] F H1) (hz : n ≤ 100000)
    (hs : ∀ i acc x F' H' H'', i < n → acc.length ≤ i → Gr [] F H1 F' H' → F' D = none → H' D = some (.dK acc) → Pv i acc F' H' → Y i H' x H'' → ∃ F'', Gr [] F' H' F'' H'' ∧ TurnD [] g tt tk tv vs σ x F'' H'' (fun k z F3 H3 => Pv (i + 1) (putK acc k z) F3 H3))
    (hD : H1 D = none)
    (q : ∀ acc F' H', Gr [] F H1 F' H' → F' D = none → H' D = some (.dK acc) → Pv n acc F' H' → Qd H') : DcW J g tt tk tv vs σ H1 D Qd := by
  have lz : 100000 < sizeLine := by rw [sizeLine_eq]; decide
  refine ⟨fun i m H' => m = n - i ∧ i ≤ n ∧ ∃ acc F', acc.length ≤ i ∧ Gr [] F H1 F' H' ∧ F' D = none ∧ H' D = some (.dK acc) ∧ Pv i acc F' H', ⟨n, by simp, Nat.zero_le _, [], F, Nat.le_refl _, (Gr.refl sees).newM hD, sees.dm hD, upd_same, hP _ _ _ _ _ h0 hD (sees.dm hD)⟩, ?_⟩
  rintro i m H' ⟨rfl, hi, acc, F', hl, gr, fD, hDc, p⟩
  have hg := hG i acc F' H' hi gr p
  by_cases lt : i < n
  · refine .inr ⟨w.goes i H' lt hg, fun H' => i + 1 ≤ n ∧ ∃ acc F', acc.length ≤ i + 1 ∧ Gr [] F H1 F' H' ∧ F' D = none ∧ H' D = some (.dK acc) ∧ Pv (i + 1) acc F' H', fun H2 h2 => ⟨n - (i + 1), by omega, rfl, h2.1, h2.2⟩, fun x H'' y => ?_⟩
    obtain ⟨F'', g1, t⟩ := hs i acc x F' H' H'' lt hl gr fD hDc p (w.yields i H' x H'' lt hg y)
    have g1' := gr.trans g1
    have nn : H' D ≠ none := by rw [hDc]; exact fun z => nomatch z
    exact t (fun y z H5 => ∃ kvs k, y = kV k ∧ H5 D = some (.dK kvs) ∧ kvs.length < sizeLine ∧ (i + 1 ≤ n ∧ ∃ acc' F3, acc'.length ≤ i + 1 ∧ Gr [] F H1 F3 (upd H5 D (.dK (putK kvs k z))) ∧ F3 D = none ∧ (upd H5 D (.dK (putK kvs k z))) D = some (.dK acc') ∧ Pv (i + 1) acc' F3 (upd H5 D (.dK (putK kvs k z))))) _
      fun k z F3 H3 g3 p3 => ⟨acc, k, rfl, (g1.trans g3).at hDc, by omega, lt, putK acc k z, F3, by have := length_putK acc k z; omega, (g1'.trans g3).mut ((g1.trans g3).none' fD nn) (.inr hD), (g1.trans g3).none' fD nn, upd_same, hP _ _ _ _ _ p3 hD ((g1.trans g3).none' fD nn)⟩
  · have e : i = n := by omega
    subst e
    exact .inl ⟨w.stops H' hg, q acc F' H' gr fD hDc p⟩
end
end TW
set_option Elab.async false
set_option linter.all false
set_option maxRecDepth 100000
set_option maxHeartbeats 4000000
/-! the rules in the words of the generator -/
namespace TW
open PySem PySem.Spec PyProof.Rows L2 RZ StX
open Evl (Ex)

theorem hu16_of {A : Around} {k : Nat} (hr : Room k A) : A.units + 16 < cLine := by have := hr.units; omega
theorem hu8_of {A : Around} {k : Nat} (hr : Room k A) : A.units + 8 < cLine := by have := hr.units; omega
/-! questions that are asked by their name -/
structure rIxD (K : PySem.W.Frag) (x y : V) (H : Hp) (Q : VK) : Prop where
  r : rIxL K x y H Q ∨ rIxT K x y H Q
structure rSlD (K : PySem.W.Frag) (x : V) (lo hi : Option Int) (H : Hp) (Q : VK) : Prop where
  r : rSlL K x lo hi H Q ∨ rSlA K x lo hi H Q
structure rLenD (K : PySem.W.Frag) (xs : List V) (H : Hp) (Q : VK) : Prop where
  r : ∃ p ys, xs = [.ref p] ∧ (SqL K H p ys ∨ SqT K H p ys) ∧ Q (.int ys.length) H
structure rTupD (K : PySem.W.Frag) (xs : List V) (H : Hp) (Q : VK) : Prop where
  r : ∃ p ys, xs = [.ref p] ∧ ((SqL K H p ys ∧ ∀ l, H l = none → Q (.ref l) (upd H l (.tup ys))) ∨ (SqT K H p ys ∧ Q (.ref p) H))
structure rLisD (K : PySem.W.Frag) (xs : List V) (H : Hp) (Q : VK) : Prop where
  r : ∃ p ys, xs = [.ref p] ∧ (SqL K H p ys ∨ SqT K H p ys) ∧ ∀ l, H l = none → Q (.ref l) (upd H l (.lst ys))
structure rIsiD (K : PySem.W.Frag) (xs : List V) (H : Hp) (Q : VK) : Prop where
  r : rIsi K xs H Q
structure rIsiTD (K : PySem.W.Frag) (xs : List V) (H : Hp) (Q : VK) : Prop where
  r : rIsiT K xs H Q
structure rAllD (K : PySem.W.Frag) (xs : List V) (H : Hp) (Q : VK) : Prop where
  r : rAll K xs H Q
structure rAnyD (K : PySem.W.Frag) (xs : List V) (H : Hp) (Q : VK) : Prop where
  r : rAny K xs H Q
structure rEqDD (K : PySem.W.Frag) (x y : V) (H : Hp) (Q : VK) : Prop where
  r : rEqD K x y H Q
structure rInD (K : PySem.W.Frag) (neg : Bool) (x y : V) (H : Hp) (Q : VK) : Prop where
  r : rIn K neg x y H Q
structure rLenS (xs : List V) (H : Hp) (Q : VK) : Prop where
  r : ∃ x : Str, xs = [.str x] ∧ x.length ≤ sizeLine ∧ Q (.int x.length) H
structure rInS (x y : V) (H : Hp) (Q : VK) : Prop where
  r : ∃ i j, x = .str i ∧ y = .str j ∧ Q (.bl (!(Builtin.Str.occurrences j i 0 j.length 1).isEmpty)) H
structure rNeDD (K : PySem.W.Frag) (x y : V) (H : Hp) (Q : VK) : Prop where
  r : rNeD K x y H Q
theorem bt_isinstance : bootBuiltins "isinstance" = some (.builtin "isinstance") := by decide +kernel
theorem bt_len : bootBuiltins "len" = some (.builtin "len") := by decide +kernel
theorem bt_all : bootBuiltins "all" = some (.builtin "all") := by decide +kernel
theorem bt_any : bootBuiltins "any" = some (.builtin "any") := by decide +kernel
theorem bt_sorted : bootBuiltins "sorted" = some (.builtin "sorted") := by decide +kernel
theorem bt_abs : bootBuiltins "abs" = some (.builtin "abs") := by decide +kernel
theorem bt_int : bootBuiltins "int" = some (.type "int") := by decide +kernel
theorem bt_str : bootBuiltins "str" = some (.type "str") := by decide +kernel
theorem bt_bool : bootBuiltins "bool" = some (.type "bool") := by decide +kernel
theorem bt_list : bootBuiltins "list" = some (.type "list") := by decide +kernel
theorem bt_tuple : bootBuiltins "tuple" = some (.type "tuple") := by decide +kernel
theorem bt_dict : bootBuiltins "dict" = some (.type "dict") := by decide +kernel
theorem bt_set : bootBuiltins "set" = some (.type "set") := by decide +kernel
theorem bt_range : bootBuiltins "range" = some (.type "range") := by decide +kernel
theorem bt_zip : bootBuiltins "zip" = some (.type "zip") := by decide +kernel
theorem bt_enumerate : bootBuiltins "enumerate" = some (.type "enumerate") := by decide +kernel
section
variable {X : Cx}
theorem zg {i : Nat} {x : Str} {pos : Pos} (hN : X.N.Nodup) (hi : X.N[i]? = some x := by rfl) (hx : Loc X.env.scope x := by first | exact Or.inl rfl | exact Or.inr rfl) (hf : X.fn x = true ∨ X.env.scope.names.lookup x = some .local := by first | exact Or.inl rfl | exact Or.inr rfl) : PG X (.Name x pos) (gName i) := pg_name hN hi hx hf
theorem zs {i : Nat} {x : Str} {e : Expr} {te : TE} {pos pos' : Pos} (hN : X.N.Nodup) (he : PE X e te) (hi : X.N[i]? = some x := by rfl) (hx : Loc X.env.scope x := by first | exact Or.inl rfl | exact Or.inr rfl) (hs : swapsWith e (some (.Name x pos')) pos.line X.env = pure false := by rfl)
    (hf : X.fn x = true ∨ X.env.scope.names.lookup x = some .local := by first | exact Or.inl rfl | exact Or.inr rfl) : PS X (.Assign [.Name x pos'] e pos) (tAsg te (gName i)) := ps_set hN hi hx he hs hf
theorem zpar {i j : Nat} {x y : Str} {a b : Expr} {ta : TA} {px py pt pos : Pos} {kt k2 pt2} (hN : X.N.Nodup) (ha : PA X [a, b] ta) (hc : X.calm = true := by rfl) (hi : X.N[i]? = some x := by rfl) (hj : X.N[j]? = some y := by rfl) (hij : i ≠ j := by decide)
    (hx : X.env.scope.names.lookup x = some .local := by rfl) (hy : X.env.scope.names.lookup y = some .local := by rfl)
    (hw : swappedStores [.Tuple [.Name x px, .Name y py] kt pt] (.Tuple [a, b] k2 pt2) X.env = pure (some [x, y]) := by rfl)
    (hs : swapsWithSole [.Tuple [.Name x px, .Name y py] kt pt] (.Tuple [a, b] k2 pt2) pos.line X.env = pure false := by rfl) :
    PS X (.Assign [.Tuple [.Name x px, .Name y py] kt pt] (.Tuple [a, b] k2 pt2) pos) (tPar i j ta) := ps_par hc hN hi hj hij hx hy ha hw hs
theorem zpar3 {i j l : Nat} {x y z : Str} {a b c : Expr} {ta : TA} {px py pz pt pos : Pos} {kt k2 pt2} (hN : X.N.Nodup) (ha : PA X [a, b, c] ta) (hc : X.calm = true := by rfl) (hi : X.N[i]? = some x := by rfl) (hj : X.N[j]? = some y := by rfl) (hl : X.N[l]? = some z := by rfl)
    (hij : i ≠ j := by decide) (hil : i ≠ l := by decide) (hjl : j ≠ l := by decide) (hx : X.env.scope.names.lookup x = some .local := by rfl) (hy : X.env.scope.names.lookup y = some .local := by rfl) (hz : X.env.scope.names.lookup z = some .local := by rfl)
    (hw : swappedStores [.Tuple [.Name x px, .Name y py, .Name z pz] kt pt] (.Tuple [a, b, c] k2 pt2) X.env = pure (some [x, y, z]) := by rfl)
    (hs : swapsWithSole [.Tuple [.Name x px, .Name y py, .Name z pz] kt pt] (.Tuple [a, b, c] k2 pt2) pos.line X.env = pure false := by rfl) :
    PS X (.Assign [.Tuple [.Name x px, .Name y py, .Name z pz] kt pt] (.Tuple [a, b, c] k2 pt2) pos) (tPar3 i j l ta) := ps_par3 hc hN hi hj hl hij hil hjl hx hy hz ha hw hs
theorem zty {x : Str} {n : String} {pos : Pos} (hm : X.mg x = none) (hv : bootBuiltins x = some (.type n)) (hg : Gl X x := by rfl) (hn : x ≠ "__name__" := by decide) (hd : (x == ("__debug__" : Str)) = false := by decide) : PE X (.Name x pos) (tC (.ty n)) := pe_bltn hg hm hv rfl hn hd
theorem zown {x : Str} {C : Addr} {pos : Pos} (hm : X.mg x = some (.ref C)) (hg : Gl X x := by rfl) (hd : (x == ("__debug__" : Str)) = false := by decide) : PE X (.Name x pos) (tC (.ref C)) := pe_glob hg hm rfl hd
/-- a list's or a tuple's item -/
theorem ix_LT (K : PySem.W.Frag) (hK : X.K = K := by rfl) : IxR X (rIxD K) := by
  subst hK; exact fun a b pins s σ H x y v u Q I rx ry h hs => (ix_list.or ix_tup) a b pins s σ H x y v u Q I rx ry h.r hs
theorem sl_LA (K : PySem.W.Frag) (hK : X.K = K := by rfl) : SlR X (rSlD K) := by
  subst hK; exact fun pins s σ H x v vl vu lo hi sl Q I rx hs pl pu h => (sl_list.or sl_tupA) pins s σ H x v vl vu lo hi sl Q I rx hs pl pu h.r
theorem cr_len (K : PySem.W.Frag) (hK : X.K = K := by rfl) : CallR X (.builtin "len") (rLenD K) := by subst hK; exact fun pins s σ H vs us Q I r h => call_len_seq pins s σ H vs us Q I r h.r
theorem cr_tuple (K : PySem.W.Frag) (hK : X.K = K := by rfl) : CallR X (.type "tuple") (rTupD K) := by subst hK; exact fun pins s σ H vs us Q I r h => call_tuple_of pins s σ H vs us Q I r h.r
theorem cr_list (K : PySem.W.Frag) (hK : X.K = K := by rfl) : CallR X (.type "list") (rLisD K) := by subst hK; exact fun pins s σ H vs us Q I r h => call_list_of pins s σ H vs us Q I r h.r
theorem cr_isi (K : PySem.W.Frag) (hK : X.K = K := by rfl) : CallR X (.builtin "isinstance") (rIsiD K) := by subst hK; exact fun pins s σ H vs us Q I r h => call_isi pins s σ H vs us Q I r h.r
theorem cr_isiT' (K : PySem.W.Frag) (hK : X.K = K := by rfl) : CallR X (.builtin "isinstance") (rIsiTD K) := by subst hK; exact fun pins s σ H vs us Q I r h => call_isiT pins s σ H vs us Q I r h.r
theorem cr_allD (K : PySem.W.Frag) (hc : X.calm = true := by rfl) (hK : X.K = K := by rfl) : CallR X (.builtin "all") (rAllD K) := by subst hK; exact fun pins s σ H vs us Q I r h => cr_all hc pins s σ H vs us Q I r h.r
theorem cr_anyD (K : PySem.W.Frag) (hc : X.calm = true := by rfl) (hK : X.K = K := by rfl) : CallR X (.builtin "any") (rAnyD K) := by subst hK; exact fun pins s σ H vs us Q I r h => cr_any hc pins s σ H vs us Q I r h.r
theorem op_eqDD (K : PySem.W.Frag) (hu : X.A.units + 64 < cLine) (hK : X.K = K := by rfl) : OpR X (compareOp .Eq) (rEqDD K) := by subst hK; exact fun pins s σ H x y v u Q I rx ry h => op_eqD hu pins s σ H x y v u Q I rx ry h.r
theorem op_neDD (K : PySem.W.Frag) (hu : X.A.units + 64 < cLine) (hK : X.K = K := by rfl) : OpR X (compareOp .NotEq) (rNeDD K) := by subst hK; exact fun pins s σ H x y v u Q I rx ry h => op_neD hu pins s σ H x y v u Q I rx ry h.r
theorem op_inK (K : PySem.W.Frag) (hK : X.K = K := by rfl) : OpR X (compareOp .In) (rInD K false) := by subst hK; exact fun pins s σ H x y v u Q I rx ry h => op_in_seq pins s σ H x y v u Q I rx ry h.r
theorem op_niK (K : PySem.W.Frag) (hK : X.K = K := by rfl) : OpR X (compareOp .NotIn) (rInD K true) := by subst hK; exact fun pins s σ H x y v u Q I rx ry h => op_notIn_seq pins s σ H x y v u Q I rx ry h.r
theorem cr_lenS : CallR X (.builtin "len") rLenS := fun pins s σ H vs us Q I r ⟨⟨x, e, h, q⟩⟩ => call_len pins s σ H vs us Q I r ⟨.str x, x.length, e, ⟨h, rfl⟩, q⟩
theorem op_inS : OpR X (compareOp .In) rInS := fun pins s σ H x y v u Q I rx ry h => op_in_str pins s σ H x y v u Q I rx ry h.r
theorem zpg {es : List Expr} {k : Nat} {t : TGs} {n : Nat} {pos : Pos} (K : PySem.W.Frag) (h : PGs X es t) (hc : X.calm = true := by rfl) (hK : X.K = K := by rfl) (hn : (assignEach es X.env).length = n := by rfl) (hst : (assignEach es X.env).findIdx? (·.1) = none := by rfl) : PG X (.Tuple es k pos) (gTup K n t) := by
  subst hK; exact pg_tup hc h hn hst
theorem zfld {e : Expr} {ta : TE} {f : Str} {pos : Pos} (K : PySem.W.Frag) (he : PE X e ta) (hK : X.K = K := by rfl) (hb : attributeBase e f X.env (eval e X.env) = eval e X.env := by rfl) : PE X (.Attribute e f pos) (tFld K ta f) := by subst hK; exact pe_fld he hb
theorem zseq {tg e : Expr} {te : TE} (K : PySem.W.Frag) (he : PE X e te) (hK : X.K = K := by rfl) : PI X tg e (iSeq K te) := by subst hK; exact pi_seq he
theorem ztruth {a : Expr} {ta : TE} (K : PySem.W.Frag) (ha : PE X a ta) (hK : X.K = K := by rfl) (he : ∀ whole, isTrue a X.env whole = (do let v ← whole; standAt a.pos; holding [v] (truthy v)) := by intro _; rfl) : PT X a (fun σ H Q => ta σ H fun x H' => ∃ k, TruV K x H' k ∧ Q k H') := by
  subst hK; exact pt_truth ha he
theorem zstar {e : Expr} {es : List Expr} {te : TE} {t : TA} {p : Pos} (K : PySem.W.Frag) (he : PE X e te) (hr : PA X es t) (hK : X.K = K := by rfl) (hs : starEach (.Starred e p :: es) X.env = (true, eval e X.env) :: starEach es X.env := by rfl) : PA X (.Starred e p :: es) (tStar K te t) := by
  subst hK; exact pa_star he hr hs
theorem m2_of {o e f : Expr} {m : Str} {apos cpos : Pos} (base : attributeBase o m X.env (eval o X.env) = eval o X.env := by rfl)
    (few : ((backTo cpos (starEach [e, f] X.env)).all (fun x => !x.1) && (backToKw cpos (keywordEach [] X.env)).all (fun x => x.1.isSome) && decide (([e, f] : List Expr).length + ([] : List Keyword).length + (if ([] : List Keyword).isEmpty then 0 else 1) < 30)) = true := by rfl)
    (line : (apos.endLine == cpos.line) = true := by rfl) (trees : backTo cpos (starEach [e, f] X.env) = [(false, eval e X.env), (false, eval f X.env)] := by rfl) : M2 X o m apos e f cpos := ⟨base, few, line, trees⟩
end

section
open PySem.W
/-- sorted(xs), xs a list of data that can be ordered -/
def rSortedD (K : PySem.W.Frag) : List V → Hp → VK → Prop := fun vs H Q => ∃ (β : Type) (enc : β → PyData) (bs : List β) (a : Addr) (xs : List V) (F : Hp), vs = [.ref a] ∧ Sees F H ∧ SqL K H a xs ∧ DpAll K F xs (bs.map enc) ∧ AllAlike (bs.map enc) ∧ Sortable (bs.map enc) ∧
  (∀ b ∈ bs, (enc b).depth ≤ 8) ∧ ∀ (ys : List V) p, DpAll K F ys ((bs.mergeSort (dataLe false enc)).map enc) → H p = none → Q (.ref p) (upd H p (.lst ys))
variable {X : Cx}
theorem cr_sortedD (K : PySem.W.Frag) (hu : X.A.units + 16 < cLine) (hK : X.K = K := by rfl) : CallR X (.builtin "sorted") (rSortedD K) := by
  subst hK
  intro pins s σ H vs us Q I r h
  obtain ⟨β, enc, bs, a, xs, F, rfl, hse, hs, hd, hal, hso, hdep, q⟩ := h
  rw [Vals.ref1 r]
  obtain ⟨its, rv, pl, hz⟩ := I.list hs
  have e1 : EachIs (fun u b => ∃ v, L2.RelV v u ∧ Dp X.K F v (enc b)) its bs := each_dp hd rv
  have e2 : EachIs (fun v b => ∃ as, Reads s.heap v (enc b) as) its bs := e1.mono fun u b ⟨v, r, d⟩ => Dp.reads I (enc b) v u (Dp.sees hse d) r
  refine sorted_data pl.isList e1 e2 hal hso (by rw [← e1.length, ← rv.length]; exact hz) (fun b hb => by have := hdep b hb; omega) fun out ho he => ?_
  obtain ⟨ys, hv, hy⟩ := dpAll_map he
  obtain ⟨ep, he'⟩ := PyProof.Rows.sortedAll_at s.heap its out.toArray
  have hlen : ys.length ≤ sizeLine := by rw [hv.length, ho, ← e1.length, ← rv.length]; exact hz
  exact ⟨.ref _, upd H (s.heap.objs.size + 1) (.lst ys), I.laid (t' := s.toks) (fun _ _ => PyProof.Rows.sortedAll_old) (Nat.le_succ _) ⟨hlen, out, ep, hv, he'⟩, rfl, q ys _ hy (I.hok.fresh (Nat.le_succ _))⟩
end
theorem iteNo {c A B : Prop} [Decidable c] (hc : ¬ c) (h : B) : if c then A else B := by rw [if_neg hc]; exact h
theorem iteYes {c A B : Prop} [Decidable c] (hc : c) (h : A) : if c then A else B := by rw [if_pos hc]; exact h
theorem keys_int (L : List Int) : (L.map Sum.inl : List Key).map kV = L.map V.int := by rw [List.map_map]; rfl
theorem keys_str (L : List Str) : (L.map Sum.inr : List Key).map kV = L.map V.str := by rw [List.map_map]; rfl
/-! ### what a def, a method, a class of the text is for its callers -/
section
variable (P : Program) (w : World) (K : PySem.W.Frag) (mg : Str → Option Value) (base : Heap)
/-- the def named x keeps sp at level k -/
structure Cal (x : Str) (k : Nat) (ps : List Str) (dvs : List V) (sp : Sp) : Prop where
  ex : ∃ (f : Addr) (fd : FuncData) (ds : List Value), mg x = some (.ref f) ∧ PySem.W.keepIn K (.ref f) = true ∧ Vals dvs ds ∧ Binds K fd ps ds ∧ FnOk P w K mg base CX0 k f fd ps sp
/-- the method m of the class at C -/
structure Met (C : Addr) (m : Str) (k : Nat) (ps : List Str) (sp : Sp) : Prop where
  cl : Cls K C
  ex : ∃ (f : Addr) (fd : FuncData), Meth K C m f ∧ Binds K fd ps [] ∧ FnOk P w K mg base CX0 k f fd ps sp
/-- the class named x, at C, made by its __init__ -/
structure Mkr (x : Str) (C : Addr) (k : Nat) (ps : List Str) (sp : Sp) : Prop where
  ex : ∃ (f : Addr) (fd : FuncData), mg x = some (.ref C) ∧ Mk K C f ∧ Binds K fd ps [] ∧ FnOk P w K mg base CX0 k f fd ps sp
end
section
variable {X : Cx} {x m : Str} {p pos apos : Pos} {o e : Expr} {es : List Expr} {t : TA} {ta : TE} {k : Nat} {C : Addr} {ps : List Str} {dvs : List V} {sp : Sp}
theorem pe_cal (c : Cal X.prog X.w X.K X.mg X.base x k ps dvs sp) (hr : Room k X.A) (ha : PA X (e :: es) t) (hg : Gl X x := by rfl) (hdb : (x == ("__debug__" : Str)) = false := by decide)
    (he : starEach (e :: es) X.env = (false, eval e X.env) :: starEach es X.env := by rfl) (hpl : (backTo pos (starEach es X.env)).any (·.1) = false := by rfl) : PE X (.Call (.Name x p) (e :: es) [] pos) (tCall sp dvs E0 t) := by
  obtain ⟨f, fd, ds, hm, hk, hd, hb, F⟩ := c.ex
  exact pe_call F hr hg hm hk hb hd pass0 ha hdb he hpl
theorem pe_cal0 (c : Cal X.prog X.w X.K X.mg X.base x k ps dvs sp) (hr : Room k X.A) (hg : Gl X x := by rfl) (hdb : (x == ("__debug__" : Str)) = false := by decide) : PE X (.Call (.Name x p) [] [] pos) (tCall sp dvs E0 tNil) := by
  obtain ⟨f, fd, ds, hm, hk, hd, hb, F⟩ := c.ex
  exact pe_call0 F hr hg hm hk hb hd pass0 hdb
theorem pe_me {pl : Sem Bool} (c : Met X.prog X.w X.K X.mg X.base C m k ps sp) (hr : Room k X.A) (he : PE X o ta) (ha : PA X (e :: es) t)
    (hst : starEach (e :: es) X.env = (false, eval e X.env) :: starEach es X.env := by rfl) (hpl : (backTo pos (starEach es X.env)).any (·.1) = false := by rfl)
    (ht : eval (.Call (.Attribute o m apos) (e :: es) [] pos) X.env = (do
      let ov ← eval o X.env
      standAt apos.atName
      let (f, first) ← holding [ov] (getMethod ov m pl)
      callWith pos f first (backTo pos (starEach (e :: es) X.env)) (backToKw pos (keywordEach [] X.env))) := by rfl) : PE X (.Call (.Attribute o m apos) (e :: es) [] pos) (tMeth C m sp [] E0 ta t) := by
  obtain ⟨f, fd, hm, hb, F⟩ := c.ex
  exact pe_meth (pl := pl) he c.cl hm F hr hb .nil pass0 ha hst hpl ht
theorem pe_me0 {pl : Sem Bool} (c : Met X.prog X.w X.K X.mg X.base C m k ps sp) (hr : Room k X.A) (he : PE X o ta)
    (ht : eval (.Call (.Attribute o m apos) [] [] pos) X.env = (do
      let ov ← eval o X.env
      standAt apos.atName
      let (f, first) ← holding [ov] (getMethod ov m pl)
      callWith pos f first (backTo pos (starEach [] X.env)) (backToKw pos (keywordEach [] X.env))) := by rfl) : PE X (.Call (.Attribute o m apos) [] [] pos) (tMeth C m sp [] E0 ta tNil) := by
  obtain ⟨f, fd, hm, hb, F⟩ := c.ex
  exact pe_meth0 (pl := pl) he c.cl hm F hr hb .nil pass0 ht
theorem pe_mk (c : Mkr X.prog X.w X.K X.mg X.base x C k ps sp) (hr : Room (k + 1) X.A) (ha : PA X (e :: es) t) (hg : Gl X x := by rfl) (hdb : (x == ("__debug__" : Str)) = false := by decide)
    (he : starEach (e :: es) X.env = (false, eval e X.env) :: starEach es X.env := by rfl) (hpl : (backTo pos (starEach es X.env)).any (·.1) = false := by rfl) : PE X (.Call (.Name x p) (e :: es) [] pos) (tMake C sp [] E0 t) := by
  obtain ⟨f, fd, hm, hk, hb, F⟩ := c.ex
  exact pe_make hk F hr hg hm hb .nil pass0 ha hdb he hpl
end

/-! ### isinstance of data -/
section
variable {K : PySem.W.Frag} {H : Hp}
def tyName : PyData → String
  | .none => "NoneType"
  | .bool _ => "bool"
  | .int _ => "int"
  | .str _ => "str"
  | .list _ => "list"
  | .tuple _ => "tuple"
  | .dict _ => "dict"
theorem ty_dp {v : V} {d : PyData} (h : Dp K H v d) : TyX K H v (.type (tyName d)) := by
  cases h with
  | non => exact .base .non
  | bl b => exact .base (.bl b)
  | int i => exact .base (.int i)
  | str x => exact .base (.str x)
  | lst h q =>
    rcases h with (h | ⟨o, h⟩) | ⟨o, its, n, hk, hc, _⟩
    · exact .base (.lst h)
    · exact .base (.frz h)
    · exact .kList hk hc
  | tup h q =>
    rcases h with (h | ⟨o, h⟩) | ⟨o, its, n, hk, hc, _⟩
    · exact .base (.tup h)
    · exact .fTuple h
    · exact .kTuple hk hc
/-- isinstance(x, (T, U)), x data -/
theorem isiT_dp {v : V} {d : PyData} {T U : String} {p : Addr} {b : Bool} {Q : VK} (h : Dp K H v d) (hp : H p = some (.tup [.ty T, .ty U])) (hb : PySem.W.kitAny K (.type (tyName d)) [.type T, .type U] = some b) (q : Q (.bl b) H) : rIsiTD K [v, .ref p] H Q :=
  .mk ⟨v, p, [.ty T, .ty U], .type (tyName d), [.type T, .type U], b, rfl, hp, .cons (.ty T) (.cons (.ty U) .nil), ty_dp h, hb, q⟩
/-- isinstance(x, T), x data -/
theorem isi_dp {v : V} {d : PyData} {T : String} {b : Bool} {Q : VK} (h : Dp K H v d) (hb : kitB (tyName d) T = some b) (q : Q (.bl b) H) : rIsiD K [v, .ty T] H Q :=
  .mk ⟨v, .ty T, .type (tyName d), .type T, b, rfl, .ty T, ty_dp h, kit_ty hb, q⟩
end
end TW
set_option Elab.async false
set_option linter.all false
set_option maxRecDepth 100000
set_option maxHeartbeats 4000000
/-! data walked, cut, paired -/
namespace TW
open PySem PySem.Spec PyProof.Rows L2 RZ StX
open Evl (Ex)
section
variable {K : PySem.W.Frag} {F H : Hp}
/-- two data of one kind of sequence -/
def twin (d e : PyData) (ds es : List PyData) : Prop := (d = .list ds ∧ e = .list es) ∨ (d = .tuple ds ∧ e = .tuple es)
theorem twin.l {d e : PyData} {ds es : List PyData} (h : twin d e ds es) : isSeq d ds := h.elim (fun z => .inl z.1) fun z => .inr z.1
theorem twin.r {d e : PyData} {ds es : List PyData} (h : twin d e ds es) : isSeq e es := h.elim (fun z => .inl z.2) fun z => .inr z.2
/-- a walk over data -/
theorem seq_walk {v : V} {d : PyData} {ds : List PyData} {R : It → Hp → Prop} (hd : Dp K F v d) (hq : isSeq d ds) (s : Sees F H)
    (k : ∀ J xs G, Walk J xs.length G (YAt xs) → (∀ H', Sees F H' → G H') → DpAll K F xs ds → xs.length = ds.length → R J H) : rSeq K v H R := by
  obtain ⟨a, xs, rfl, h, q⟩ := dp_seq hd hq
  rcases h with h | h
  · exact .mk ⟨a, xs, rfl, .inl ⟨sees_l s h, k _ xs _ walk_list (fun H' z => sees_l z h) q q.length⟩⟩
  · exact .mk ⟨a, xs, rfl, .inr ⟨sees_t s h, k _ xs _ walk_tup (fun H' z => sees_t z h) q q.length⟩⟩
theorem walk_zipT {a b : Addr} {xs ys : List V} {n : Nat} (hn : n = min xs.length ys.length) : Walk (ItzT K a b) n (fun H => SqT K H a xs ∧ SqT K H b ys) (YPair (fun i => xs[i]?) (fun i => ys[i]?)) := by
  subst hn
  refine ⟨fun i _ hi q => ?_, fun _ q => ⟨xs, ys, q.1, q.2, by omega⟩, fun i H v H' _ q y => ?_⟩
  · have h1 : i < xs.length := by omega
    have h2 : i < ys.length := by omega
    exact ⟨xs, ys, xs[i], ys[i], q.1, q.2, by simp [h1], by simp [h2]⟩
  · obtain ⟨T, x, z, h1, h2, h3, h4, h5⟩ := y
    exact ⟨T, x, z, h1, h2, h3, h4 xs q.1, h5 ys q.2⟩
structure rZip (K : PySem.W.Frag) (vs : List V) (H : Hp) (R : It → Hp → Prop) : Prop where
  r : ∃ a b xs ys, vs = [.ref a, .ref b] ∧ ((SqL K H a xs ∧ SqL K H b ys ∧ R (Itz K a b) H) ∨ (SqT K H a xs ∧ SqT K H b ys ∧ R (ItzT K a b) H))
def iZipD (K : PySem.W.Frag) (ta : TA) : TI := fun σ H R => ta σ H fun vs H1 => rZip K vs H1 R
/-- a reading that may be weakened -/
def upA (ta : TA) : TA := fun σ H Q => ∃ Q0, ta σ H Q0 ∧ ∀ vs H1, Q0 vs H1 → Q vs H1
theorem pa_up {X : Cx} {es : List Expr} {ta : TA} (h : PA X es ta) : PA X es (upA ta) := by
  refine ⟨fun pos pins s σ H Q I q => ?_⟩
  obtain ⟨Q0, h1, h2⟩ := q
  refine thn (h.run pos pins s σ H Q0 I h1) fun us s1 q1 => ?_
  obtain ⟨vs, H', I', r, q2⟩ := q1
  exact ⟨vs, H', I', r, h2 _ _ q2⟩
theorem pi_zipD {X : Cx} {e e2 : Expr} {ta : TA} {p pos tpos : Pos} {elts : List Expr} {kk : Nat} (K : PySem.W.Frag) (hm : X.mg "zip" = none) (ha : PA X [e, e2] ta) (hK : X.K = K := by rfl) (hg : Gl X "zip" := by rfl)
    (hs : starEach [e, e2] X.env = (false, eval e X.env) :: starEach [e2] X.env := by rfl) (hpl : (backTo pos (starEach [e2] X.env)).any (·.1) = false := by rfl) :
    PI X (.Tuple elts kk tpos) (.Call (.Name "zip" p) [e, e2] [] pos) (iZipD K ta) := by
  subst hK
  refine ⟨fun pins s σ H R I h => (pi_zipA hg hm (pa_up ha) hs hpl).run pins s σ H R I ⟨_, h, fun vs H1 q => q.r⟩⟩
theorem zip_walk {v u : V} {d e : PyData} {ds es : List PyData} {R : It → Hp → Prop} (hd : Dp K F v d) (he : Dp K F u e) (ht : twin d e ds es) (s : Sees F H)
    (k : ∀ J xs ys G, Walk J (min ds.length es.length) G (YPair (fun i => xs[i]?) (fun i => ys[i]?)) → (∀ H', Sees F H' → G H') → DpAll K F xs ds → DpAll K F ys es → R J H) :
    rZip K [v, u] H R := by
  rcases ht with ⟨rfl, rfl⟩ | ⟨rfl, rfl⟩
  · obtain ⟨a, xs, rfl, h1, q1⟩ := dp_list hd
    obtain ⟨b, ys, rfl, h2, q2⟩ := dp_list he
    exact .mk ⟨a, b, xs, ys, rfl, .inl ⟨sees_l s h1, sees_l s h2, k _ xs ys _ (walk_zip (by rw [q1.length, q2.length])) (fun H' z => ⟨sees_l z h1, sees_l z h2⟩) q1 q2⟩⟩
  · obtain ⟨a, xs, rfl, h1, q1⟩ := dp_tup hd
    obtain ⟨b, ys, rfl, h2, q2⟩ := dp_tup he
    exact .mk ⟨a, b, xs, ys, rfl, .inr ⟨sees_t s h1, sees_t s h2, k _ xs ys _ (walk_zipT (by rw [q1.length, q2.length])) (fun H' z => ⟨sees_t z h1, sees_t z h2⟩) q1 q2⟩⟩
/-- x[lo:hi] -/
theorem DpAll.drop : ∀ {vs : List V} {ds : List PyData} (n : Nat), DpAll K F vs ds → DpAll K F (vs.drop n) (ds.drop n)
  | _, _, 0, h => h
  | _, _, _ + 1, .nil => .nil
  | _, _, n + 1, .cons _ t => DpAll.drop n t
theorem DpAll.take : ∀ {vs : List V} {ds : List PyData} (n : Nat), DpAll K F vs ds → DpAll K F (vs.take n) (ds.take n)
  | _, _, 0, _ => .nil
  | _, _, _ + 1, .nil => .nil
  | _, _, n + 1, .cons h t => .cons h (DpAll.take n t)
def cutD (ds : List PyData) (lo hi : Option Int) : List PyData := (ds.drop (HT.sIx ds.length 0 lo)).take (HT.sIx ds.length ds.length hi - HT.sIx ds.length 0 lo)
theorem cutD_from (ds : List PyData) (k : Nat) : cutD ds (some (k : Int)) none = ds.drop k := by
  unfold cutD
  rw [HT.sIx_nat, HT.sIx_none]
  by_cases h : k ≤ ds.length
  · rw [Nat.min_eq_left h, List.take_of_length_le (by rw [List.length_drop]; exact Nat.le_refl _)]
  · have h' : ds.length ≤ k := by omega
    rw [Nat.min_eq_right h', List.drop_length, List.drop_of_length_le h']
    simp
theorem cutD_to (ds : List PyData) (k : Nat) : cutD ds none (some (k : Int)) = ds.take k := by
  unfold cutD
  rw [HT.sIx_nat, HT.sIx_none]
  by_cases h : k ≤ ds.length
  · rw [Nat.min_eq_left h]; simp
  · have h' : ds.length ≤ k := by omega
    rw [Nat.min_eq_right h', List.take_of_length_le h']
    simp
theorem DpAll.cut {vs : List V} {ds : List PyData} (h : DpAll K F vs ds) (lo hi : Option Int) : DpAll K F (cutV vs lo hi) (cutD ds lo hi) := by
  unfold cutV cutD
  rw [h.length]
  exact DpAll.take _ (DpAll.drop _ h)
theorem slL_dp {v : V} {ds : List PyData} {lo hi : Option Int} {Q : VK} (hd : Dp K F v (.list ds)) (s : Sees F H) (k : ∀ p ys F' H', Gr [] F H F' H' → H p = none → F' p = none → H' p = some (.lst ys) → DpAll K F' ys (cutD ds lo hi) → Q (.ref p) H') : rSlL K v lo hi H Q := by
  obtain ⟨a, xs, rfl, h, q⟩ := dp_list hd
  exact ⟨a, xs, rfl, sees_l s h, fun p hp => k p _ F _ ((Gr.refl s).newM hp) hp (s.dm hp) upd_same (DpAll.cut q lo hi)⟩
theorem slT_dp {v : V} {ds : List PyData} {lo hi : Option Int} {Q : VK} (hd : Dp K F v (.tuple ds)) (s : Sees F H) (k : ∀ r F' H', Gr [] F H F' H' → Dp K F' r (.tuple (cutD ds lo hi)) → Q r H') : rSlA K v lo hi H Q := by
  obtain ⟨a, xs, rfl, h, q⟩ := dp_tup hd
  refine ⟨a, xs, rfl, sees_t s h, fun hw => k _ F H (Gr.refl s) ?_, fun _ p hp => k _ _ _ ((Gr.refl s).new hp) (.tup (.inl (.inl upd_same)) ((DpAll.cut q lo hi).ex (Ex.new (s.dm hp))))⟩
  have e : cutD ds lo hi = ds := by
    unfold cutD
    rw [← q.length, hw.1, hw.2, List.drop_zero, Nat.sub_zero, List.take_of_length_le (by rw [q.length]; exact Nat.le_refl _)]
  rw [e]
  exact .tup h q
/-- either -/
theorem slQ_dp {v : V} {d : PyData} {ds : List PyData} {lo hi : Option Int} {Q : VK} (hd : Dp K F v d) (hq : isSeq d ds) (s : Sees F H) (k : ∀ r e F' H', Gr [] F H F' H' → twin d e ds (cutD ds lo hi) → Dp K F' r e → Q r H') : rSlD K v lo hi H Q := by
  rcases hq with rfl | rfl
  · refine .mk (.inl (slL_dp hd s fun p ys F' H' g hp hf hh hy => k _ (.list (cutD ds lo hi)) _ H' (g.done hp hf hh) (.inl ⟨rfl, rfl⟩) (.lst (.inl (.inl upd_same)) (hy.ex (Ex.new hf)))))
  · exact .mk (.inr (slT_dp hd s fun r F' H' g hr => k r _ F' H' g (.inr ⟨rfl, rfl⟩) hr))
/-- len of data -/
theorem len_dp {v : V} {d : PyData} {ds : List PyData} {Q : VK} (hd : Dp K F v d) (hq : isSeq d ds) (s : Sees F H) (q : Q (.int ds.length) H) : rLenD K [v] H Q := by
  obtain ⟨a, xs, rfl, h, hx⟩ := dp_seq hd hq
  exact .mk ⟨a, xs, rfl, h.imp (sees_l s) (sees_t s), by rw [hx.length]; exact q⟩
/-- an item of data -/
theorem ix_dp {v : V} {d e : PyData} {ds : List PyData} {i : Int} {Q : VK} (hd : Dp K F v d) (hq : isSeq d ds) (s : Sees F H) (hi : atI ds i = some e) (q : ∀ r, Dp K F r e → Q r H) : rIxD K v (.int i) H Q := by
  obtain ⟨a, xs, rfl, h, hx⟩ := dp_seq hd hq
  have go : ∃ r, atI xs i = some r ∧ Dp K F r e := by
    unfold atI at hi ⊢
    rw [hx.length]
    cases hj : ixN ds.length i with
    | none => rw [hj] at hi; cases hi
    | some j =>
      rw [hj] at hi
      obtain ⟨r, h1, h2⟩ := hx.getD hi
      exact ⟨r, h1, h2⟩
  obtain ⟨r, h1, h2⟩ := go
  rcases h with h | h
  · exact .mk (.inl ⟨a, xs, i, r, rfl, rfl, sees_l s h, h1, q r h2⟩)
  · exact .mk (.inr ⟨a, xs, i, r, rfl, rfl, sees_t s h, h1, q r h2⟩)
/-- tuple(x), list(x) of data -/
theorem tuple_dp {v : V} {d : PyData} {ds : List PyData} {Q : VK} (hd : Dp K F v d) (hq : isSeq d ds) (s : Sees F H) (k : ∀ r F' H', Gr [] F H F' H' → Dp K F' r (.tuple ds) → Q r H') : rTupD K [v] H Q := by
  rcases hq with rfl | rfl
  · obtain ⟨a, xs, rfl, h, hx⟩ := dp_list hd
    exact .mk ⟨a, xs, rfl, .inl ⟨sees_l s h, fun l hl => k _ _ _ ((Gr.refl s).new hl) (.tup (.inl (.inl upd_same)) (hx.ex (Ex.new (s.dm hl))))⟩⟩
  · obtain ⟨a, xs, rfl, h, hx⟩ := dp_tup hd
    exact .mk ⟨a, xs, rfl, .inr ⟨sees_t s h, k _ F H (Gr.refl s) (.tup h hx)⟩⟩
theorem list_dp {v : V} {d : PyData} {ds : List PyData} {Q : VK} (hd : Dp K F v d) (hq : isSeq d ds) (s : Sees F H) (k : ∀ p ys F' H', Gr [] F H F' H' → H p = none → F' p = none → H' p = some (.lst ys) → DpAll K F' ys ds → Q (.ref p) H') : rLisD K [v] H Q := by
  obtain ⟨a, xs, rfl, h, hx⟩ := dp_seq hd hq
  exact .mk ⟨a, xs, rfl, h.imp (sees_l s) (sees_t s), fun l hl => k l xs F _ ((Gr.refl s).newM hl) hl (s.dm hl) upd_same hx⟩
/-- all(l), any(l), l a new list of truth values -/
theorem all_new {p : Addr} {bs : List Bool} {Q : VK} (h : H p = some (.lst (bs.map V.bl))) (q : Q (.bl (bs.all id)) H) : rAllD K [.ref p] H Q := .mk ⟨p, bs, rfl, .inl (.inl h), q⟩
theorem any_new {p : Addr} {bs : List Bool} {Q : VK} (h : H p = some (.lst (bs.map V.bl))) (q : Q (.bl (bs.any id)) H) : rAnyD K [.ref p] H Q := .mk ⟨p, bs, rfl, .inl (.inl h), q⟩
end
/-! ### comprehensions over data -/
section
variable {K : PySem.W.Frag} {J : It} {G : Hp → Prop} {g : TG} {tt : TT} {te : TE} {vs : List Nat} {σ : L2.St} {F H1 : Hp} {D : Addr} {Qd : Hp → Prop} {β : Type} {bs : List β} {enc : β → PyData} {xs : List V}
theorem yAt_dp (hx : DpAll K F xs (bs.map enc)) {i : Nat} {b : β} {x : V} {F' H' H'' : Hp} (hb : bs[i]? = some b) (g1 : Gr [] F H1 F' H') (y : YAt xs i H' x H'') : ∃ F'', Gr [] F' H' F'' H'' ∧ Dp K F'' x (enc b) := by
  obtain ⟨rfl, hxi⟩ := y
  obtain ⟨d, h1, h2⟩ := hx.get hxi
  rw [List.getElem?_map, hb] at h1
  cases h1
  exact ⟨F', Gr.refl g1.fh, h2.ex g1.ff⟩
theorem lc_seqP {p : β → Bool} {f : β → PyData} (w : Walk J xs.length G (YAt xs)) (hx : DpAll K F xs (bs.map enc)) (sees : Sees F H1) (hG : ∀ H', Sees F H' → G H') (hz : bs.length ≤ 100000)
    (hs : ∀ b x F' H', b ∈ bs → Gr [] F H1 F' H' → Dp K F' x (enc b) → TurnP [] g tt te vs σ x F' H' (p b) (fun y F3 _ => Dp K F3 y (f b)))
    (hD : H1 D = none) (q : ∀ acc F' H', Gr [] F H1 F' H' → F' D = none → H' D = some (.lst acc) → DpAll K F' acc ((bs.filter p).map f) → Qd H') : LcW J g tt te vs σ H1 D Qd :=
  lc_pure (K := K) (Im := fun b x F => Dp K F x (enc b)) (by rw [hx.length, List.length_map] at w; exact w) sees hG hz (fun i b x F' H' H'' hb g1 y => yAt_dp hx hb g1 y) hs hD q
theorem lc_seqM {f : β → PyData} (w : Walk J xs.length G (YAt xs)) (hx : DpAll K F xs (bs.map enc)) (sees : Sees F H1) (hG : ∀ H', Sees F H' → G H') (hz : bs.length ≤ 100000)
    (hs : ∀ b x F' H', b ∈ bs → Gr [] F H1 F' H' → Dp K F' x (enc b) → TurnP [] g tt te vs σ x F' H' true (fun y F3 _ => Dp K F3 y (f b)))
    (hD : H1 D = none) (q : ∀ acc F' H', Gr [] F H1 F' H' → F' D = none → H' D = some (.lst acc) → DpAll K F' acc (bs.map f) → Qd H') : LcW J g tt te vs σ H1 D Qd :=
  lc_map (K := K) (Im := fun b x F => Dp K F x (enc b)) (by rw [hx.length, List.length_map] at w; exact w) sees hG hz (fun i b x F' H' H'' hb g1 y => yAt_dp hx hb g1 y) hs hD q
theorem lc_seqB {f : β → Bool} (w : Walk J xs.length G (YAt xs)) (hx : DpAll K F xs (bs.map enc)) (sees : Sees F H1) (hG : ∀ H', Sees F H' → G H') (hz : bs.length ≤ 100000)
    (hs : ∀ b x F' H', b ∈ bs → Gr [] F H1 F' H' → Dp K F' x (enc b) → TurnP [] g tt te vs σ x F' H' true (fun y F3 _ => y = .bl (f b)))
    (hD : H1 D = none) (q : ∀ F' H', Gr [] F H1 F' H' → F' D = none → H' D = some (.lst ((bs.map f).map V.bl)) → Qd H') : LcW J g tt te vs σ H1 D Qd :=
  lc_bools K (Im := fun b x F => Dp K F x (enc b)) (by rw [hx.length, List.length_map] at w; exact w) sees hG hz (fun i b x F' H' H'' hb g1 y => yAt_dp hx hb g1 y) hs hD q
/-- a turn over pairs -/
theorem turn2 {B : List Addr} {i j : Nat} {T : Addr} {x y : V} {F H : Hp} {R : V → Hp → Hp → Prop} {R0 : Hp → Hp → Prop} (hT : SqT K H T [x, y]) (hw : wipe (((wipe σ vs).set i (some x)).set j (some y)) vs = wipe σ vs)
    (h : ∀ Yes : V → Hp → Prop, (∀ y F3 H3, Gr B F H F3 H3 → R y F3 H3 → Yes y H3) → te (((wipe σ vs).set i (some x)).set j (some y)) H Yes) : TurnP B (gTup K 2 (gCons (gName i) (gCons (gName j) gNil))) tYes te vs σ (.ref T) F H true R R0 :=
  fun Yes No _ h1 => ⟨T, [x, y], rfl, hT, rfl, _, _, rfl, _, _, rfl, rfl, hw, yesI (h Yes (h1 rfl))⟩
end
/-! pairs of neighbours -/
section
variable {K : PySem.W.Frag} {J : It} {G : Hp → Prop} {g : TG} {tt : TT} {te : TE} {vs : List Nat} {σ : L2.St} {F H1 : Hp} {D : Addr} {Qd : Hp → Prop} {β γ : Type} {bs : List β} {cs : List γ} {enc : β → PyData} {end' : γ → PyData} {xs ys : List V}
theorem yPair_dp (hx : DpAll K F xs (bs.map enc)) (hy : DpAll K F ys (cs.map end')) {i : Nat} {b : β × γ} {v : V} {F' H' H'' : Hp} (hb : (bs.zip cs)[i]? = some b) (g1 : Gr [] F H1 F' H') (y : YPair (fun i => xs[i]?) (fun i => ys[i]?) i H' v H'') :
    ∃ F'', Gr [] F' H' F'' H'' ∧ ∃ T x y, v = .ref T ∧ F'' T = some (.tup [x, y]) ∧ Dp K F'' x (enc b.1) ∧ Dp K F'' y (end' b.2) := by
  obtain ⟨T, x1, y1, rfl, hT, rfl, h1, h2⟩ := y
  obtain ⟨i1, i2⟩ := List.getElem?_zip_eq_some.mp hb
  obtain ⟨d, k1, k2⟩ := hx.get h1
  obtain ⟨e, k3, k4⟩ := hy.get h2
  rw [List.getElem?_map, i1] at k1
  rw [List.getElem?_map, i2] at k3
  cases k1
  cases k3
  exact ⟨_, (Gr.refl g1.fh).new hT, T, x1, y1, rfl, upd_same, (k2.ex g1.ff).ex (Ex.new (g1.fh.dm hT)), (k4.ex g1.ff).ex (Ex.new (g1.fh.dm hT))⟩
end
/-! loops of a display of two clauses -/
section
variable {J : It} {n : Nat} {G : Hp → Prop} {Y : Nat → Hp → V → Hp → Prop}
theorem loop_it (w : Walk J n G Y) {H0 : Hp} {stop : Hp → Prop} {turn : V → Hp → (Hp → Prop) → Prop} (P : Nat → Hp → Prop) (h0 : P 0 H0) (hG : ∀ i H, i ≤ n → P i H → G H) (hs : ∀ i x H H', i < n → P i H → Y i H x H' → turn x H' (P (i + 1))) (hd : ∀ H, P n H → stop H) :
    ∃ W : Nat → Nat → Hp → Prop, (∃ m, W 0 m H0) ∧ ∀ i m H, W i m H → (J.stop i H ∧ stop H) ∨ (J.go i H ∧ ∃ Nx : Hp → Prop, (∀ H', Nx H' → ∃ m', m' < m ∧ W (i + 1) m' H') ∧ ∀ x H', J.yld i H x H' → turn x H' Nx) := by
  refine ⟨fun i m H => m = n - i ∧ i ≤ n ∧ P i H, ⟨n, by simp, Nat.zero_le _, h0⟩, ?_⟩
  rintro i m H ⟨rfl, hi, p⟩
  have q := hG i H hi p
  by_cases lt : i < n
  · exact .inr ⟨w.goes i H lt q, P (i + 1), fun H' p' => ⟨n - (i + 1), by omega, rfl, lt, p'⟩, fun x H' y => hs i x H H' lt p (w.yields i H x H' lt q y)⟩
  · have e : i = n := by omega
    subst e
    exact .inl ⟨w.stops H q, hd H p⟩
end
/-- a finished dict, its class -/
theorem isi_dK {K : PySem.W.Frag} {H : Hp} {a : Addr} {kvs : List (Key × V)} {T : String} {b : Bool} {Q : VK} (h : H a = some (.dK kvs)) (hb : kitB "dict" T = some b) (q : Q (.bl b) H) : rIsiD K [.ref a, .ty T] H Q :=
  .mk ⟨.ref a, .ty T, .type "dict", .type T, b, rfl, .ty T, .base (.dK h), kit_ty hb, q⟩
end TW
set_option Elab.async false
set_option linter.all false
set_option maxRecDepth 100000
set_option maxHeartbeats 4000000
/-! tuple(d): the keys of a dict -/
namespace TW
open PySem PySem.Spec PyProof.Rows L2 RZ StX
section
variable {X : Cx}
/-- tuple(d) -/
structure rTupKD (xs : List V) (H : Hp) (Q : VK) : Prop where
  r : ∃ (a : Addr) (kvs : List (Key × V)), xs = [.ref a] ∧ Rd H a (.dK kvs) ∧ ∀ p, H p = none → Q (.ref p) (upd H p (.tup (kvs.map fun kv => kV kv.1)))
theorem cr_tupKD (hcalm : X.calm = true := by rfl) : CallR X (.type "tuple") rTupKD := by
  intro pins s σ H xs us Q I r h
  obtain ⟨a, kvs, rfl, hd, q⟩ := h.r
  rw [Vals.ref1 r]
  obtain ⟨z, lo, vs, rel, dd⟩ := dk_rd I.hok hd
  obtain ⟨ep, hat⟩ := dd.dictAt
  have ek : (kvs.map fun kv => kV kv.1) = vs.map fun p => kV p.1 := by
    have e := congrArg (List.map kV) rel.keys
    rw [List.map_map, List.map_map] at e
    exact e
  have hz : vs.length ≤ sizeLine := by rw [← rel.length]; exact z
  have hTd : s.TypeIs (.ref a) "dict" := dd.typeIs
  refine callType_codes (Q₁ := fun obj s₁ => s₁.TypeIs obj "tuple" ∧ EP X pins σ Q obj s₁) F.called_tuple (F.typeCall_tuple_1 _) F.entry_object_init ?_
    fun obj s₁ h₁ => ⟨h₁.1, F.args_object_init_2 obj _, object_init_meets F.called_tuple.init.lookup F.called_tuple.made (by decide) X.prog X.w X.A.in1 _ s₁ ⟨h₁.1, rfl, h₁.2⟩⟩
  refine codeAny_of_tree ?_
  show wpAny _ X.A.in1.in1 (do checkBuiltinCall "tuple.__new__" ⟨[.type "tuple", .ref a], []⟩; again (.builtin "tuple.__new__" ⟨[.type "tuple", .ref a], []⟩)) _ _ s
  refine wpAny_bind (wpAny_of_eq (F.newCall_tuple_1 _) (wpAny_pure ⟨plainId_quiet F.plain_tuple_new _, codeAny_builtin F.entry_tuple_new ?_⟩))
  rw [Around.under_plainId F.plain_tuple_new _]
  have y1 := sub_tuple_self
  have y2 := init_tuple_lookup
  have y3 := madeHere_tuple
  have hh : X.A.in1.in1.handled = none := I.ok.hd hcalm
  have col : ∀ (E : Value → Shared → Prop) (R : List Value → Shared → Prop), (∀ h' tk acc, (∀ b o, s.heap.get? b = some o → h'.get? b = some o) → Vals (kvs.map fun kv => kV kv.1) acc → acc.length ≤ sizeLine → R acc { s with heap := h', toks := tk }) → wpAny (model X.prog X.w) X.A.in1.in1 (collect (.ref a)) R E s := fun E R hR =>
    PySem.W.kdu_collect (A := X.A.in1.in1) (PySem.W.kdl_dict (knd := mixKind X.prog X.w) (kvs := vs) (ep := ep) lo) hh hat hz fun h' tk acc hk hacc => hR h' tk acc.toList hk (by
      rw [ek]
      exact keys_at (by rw [Array.length_toList]; exact hacc.1) fun j v e => hacc.2 j v (by rw [← Array.getElem?_toList]; exact e)) (by rw [Array.length_toList, hacc.1]; exact hz)
  wp_walk using wpAny_typeOf hTd, col _ _
  intro h' tk acc hk hv hl
  show wpAny _ _ (Builtin.Tuple.tupleExact acc.toArray >>= fun v => ret v) _ _ _
  unfold Builtin.Tuple.tupleExact
  refine wpAny_bind (wpAny_newObj_type ?_ (by show acc.toArray.size ≤ sizeLine; rw [List.size_toArray]; exact hl))
  refine wpAny_pure ⟨⟨_, Heap.get?_push_size _ rfl, rfl⟩, ?_⟩
  have I1 : Inv X pins σ H { s with heap := h', toks := tk } := I.kept hk
  have I2 : Inv X pins σ (upd H h'.objs.size (.tup (kvs.map fun kv => kV kv.1))) { s with heap := h'.push { cls := .type "tuple", data := .seq acc.toArray }, toks := tk } :=
    I1.laid (t' := tk) (fun b o e => Heap.get?_push_of_some _ e) (Nat.le_refl _) (show ObjOk X.prog X.w _ _ _ (.tup _) from ⟨by rw [hv.length]; exact hl, acc, hv, IsTup.new _ _⟩)
  exact ⟨.ref h'.objs.size, _, I2, rfl, q _ (I1.hok.fresh (Nat.le_refl _))⟩
end
end TW
set_option Elab.async false
set_option linter.all false
set_option maxRecDepth 100000
/-! the text by places -/
namespace TW
open PySem L2
def topS (i : Nat) : Stmt := PySem.Challenge.pw_throughwalls_k06_whole_knowing_goes_mark.main.body.getD i (.Pass ⟨0, 0, 0, 0⟩)
abbrev s_is_integer : Stmt := topS 6
abbrev sc_is_integerN : List Str := ["value"]
theorem sc_is_integer : FnScope sc_is_integerN ["value"] (defScope s_is_integer) := ⟨rfl, rfl, rfl, by decide +kernel, rfl, by decide +kernel, by decide +kernel⟩
abbrev s_is_within : Stmt := topS 7
abbrev sc_is_withinN : List Str := ["value", "least", "most"]
theorem sc_is_within : FnScope sc_is_withinN ["value", "least", "most"] (defScope s_is_within) := ⟨rfl, rfl, rfl, by decide +kernel, rfl, by decide +kernel, by decide +kernel⟩
abbrev s_is_listed : Stmt := topS 8
abbrev sc_is_listedN : List Str := ["value"]
theorem sc_is_listed : FnScope sc_is_listedN ["value"] (defScope s_is_listed) := ⟨rfl, rfl, rfl, by decide +kernel, rfl, by decide +kernel, by decide +kernel⟩
abbrev s_is_sound : Stmt := topS 9
abbrev sc_is_soundN : List Str := ["value"]
theorem sc_is_sound : FnScope sc_is_soundN ["value"] (defScope s_is_sound) := ⟨rfl, rfl, rfl, by decide +kernel, rfl, by decide +kernel, by decide +kernel⟩
abbrev s_is_mark : Stmt := topS 10
abbrev sc_is_markN : List Str := ["value", "sign"]
theorem sc_is_mark : FnScope sc_is_markN ["value"] (defScope s_is_mark) := ⟨rfl, rfl, rfl, by decide +kernel, rfl, by decide +kernel, by decide +kernel⟩
abbrev s_is_heard : Stmt := topS 11
abbrev sc_is_heardN : List Str := ["value"]
theorem sc_is_heard : FnScope sc_is_heardN ["value"] (defScope s_is_heard) := ⟨rfl, rfl, rfl, by decide +kernel, rfl, by decide +kernel, by decide +kernel⟩
abbrev s_ascends : Stmt := topS 12
abbrev sc_ascendsN : List Str := ["value", "one", "other"]
theorem sc_ascends : FnScope sc_ascendsN ["value"] (defScope s_ascends) := ⟨rfl, rfl, rfl, by decide +kernel, rfl, by decide +kernel, by decide +kernel⟩
abbrev s_is_lot : Stmt := topS 13
abbrev sc_is_lotN : List Str := ["value", "place"]
theorem sc_is_lot : FnScope sc_is_lotN ["value"] (defScope s_is_lot) := ⟨rfl, rfl, rfl, by decide +kernel, rfl, by decide +kernel, by decide +kernel⟩
abbrev s_is_inside : Stmt := topS 14
abbrev sc_is_insideN : List Str := ["lot", "other", "item"]
theorem sc_is_inside : FnScope sc_is_insideN ["lot", "other"] (defScope s_is_inside) := ⟨rfl, rfl, rfl, by decide +kernel, rfl, by decide +kernel, by decide +kernel⟩
abbrev s_is_arrow : Stmt := topS 25
abbrev sc_is_arrowN : List Str := ["value"]
theorem sc_is_arrow : FnScope sc_is_arrowN ["value"] (defScope s_is_arrow) := ⟨rfl, rfl, rfl, by decide +kernel, rfl, by decide +kernel, by decide +kernel⟩
abbrev s_Speech___init__ : Stmt := inClass (topS 27) 0
abbrev sc_Speech___init__N : List Str := ["self", "arrows", "starts", "arrow", "found", "one", "other", "places", "at"]
theorem sc_Speech___init__ : FnScope sc_Speech___init__N ["self", "arrows", "starts"] (defScope s_Speech___init__) := ⟨rfl, rfl, rfl, by decide +kernel, rfl, by decide +kernel, by decide +kernel⟩
abbrev s_need_speech : Stmt := topS 28
abbrev sc_need_speechN : List Str := ["value", "part"]
theorem sc_need_speech : FnScope sc_need_speechN ["value", "part"] (defScope s_need_speech) := ⟨rfl, rfl, rfl, by decide +kernel, rfl, by decide +kernel, by decide +kernel⟩
abbrev s_are_marks : Stmt := topS 32
abbrev sc_are_marksN : List Str := ["value", "mark"]
theorem sc_are_marks : FnScope sc_are_marksN ["value"] (defScope s_are_marks) := ⟨rfl, rfl, rfl, by decide +kernel, rfl, by decide +kernel, by decide +kernel⟩
abbrev s_Wall___init__ : Stmt := inClass (topS 33) 0
abbrev sc_Wall___init__N : List Str := ["self", "marks", "sound", "every", "mark"]
theorem sc_Wall___init__ : FnScope sc_Wall___init__N ["self", "marks"] (defScope s_Wall___init__) := ⟨rfl, rfl, rfl, by decide +kernel, rfl, by decide +kernel, by decide +kernel⟩
abbrev s_need_wall : Stmt := topS 34
abbrev sc_need_wallN : List Str := ["value", "speech", "sound"]
theorem sc_need_wall : FnScope sc_need_wallN ["value", "speech"] (defScope s_need_wall) := ⟨rfl, rfl, rfl, by decide +kernel, rfl, by decide +kernel, by decide +kernel⟩
abbrev s_Hearing___init__ : Stmt := inClass (topS 36) 0
abbrev sc_Hearing___init__N : List Str := ["self", "speech", "wall", "place", "mark", "sound", "later"]
theorem sc_Hearing___init__ : FnScope sc_Hearing___init__N ["self", "speech", "wall"] (defScope s_Hearing___init__) := ⟨rfl, rfl, rfl, by decide +kernel, rfl, by decide +kernel, by decide +kernel⟩
abbrev s_Hearing_closed : Stmt := inClass (topS 36) 1
abbrev sc_Hearing_closedN : List Str := ["self", "places", "found", "line", "place", "later"]
theorem sc_Hearing_closed : FnScope sc_Hearing_closedN ["self", "places"] (defScope s_Hearing_closed) := ⟨rfl, rfl, rfl, by decide +kernel, rfl, by decide +kernel, by decide +kernel⟩
abbrev s_Hearing_behind : Stmt := inClass (topS 36) 2
abbrev sc_Hearing_behindN : List Str := ["self", "places", "mark", "led", "found", "place", "later"]
theorem sc_Hearing_behind : FnScope sc_Hearing_behindN ["self", "places", "mark"] (defScope s_Hearing_behind) := ⟨rfl, rfl, rfl, by decide +kernel, rfl, by decide +kernel, by decide +kernel⟩
abbrev s_Hearing_begun : Stmt := inClass (topS 36) 3
abbrev sc_Hearing_begunN : List Str := ["self"]
theorem sc_Hearing_begun : FnScope sc_Hearing_begunN ["self"] (defScope s_Hearing_begun) := ⟨rfl, rfl, rfl, by decide +kernel, rfl, by decide +kernel, by decide +kernel⟩
abbrev s_need_hearing : Stmt := topS 37
abbrev sc_need_hearingN : List Str := ["speech", "wall"]
theorem sc_need_hearing : FnScope sc_need_hearingN ["speech", "wall"] (defScope s_need_hearing) := ⟨rfl, rfl, rfl, by decide +kernel, rfl, by decide +kernel, by decide +kernel⟩
abbrev s_need_places : Stmt := topS 38
abbrev sc_need_placesN : List Str := ["hearing", "value"]
theorem sc_need_places : FnScope sc_need_placesN ["hearing", "value"] (defScope s_need_places) := ⟨rfl, rfl, rfl, by decide +kernel, rfl, by decide +kernel, by decide +kernel⟩
abbrev s_need_row : Stmt := topS 39
abbrev sc_need_rowN : List Str := ["hearing", "value", "at", "mark"]
theorem sc_need_row : FnScope sc_need_rowN ["hearing", "value"] (defScope s_need_row) := ⟨rfl, rfl, rfl, by decide +kernel, rfl, by decide +kernel, by decide +kernel⟩
abbrev s_silent : Stmt := topS 40
abbrev sc_silentN : List Str := ["speech", "wall", "places", "hearing"]
theorem sc_silent : FnScope sc_silentN ["speech", "wall", "places"] (defScope s_silent) := ⟨rfl, rfl, rfl, by decide +kernel, rfl, by decide +kernel, by decide +kernel⟩
abbrev s_after : Stmt := topS 41
abbrev sc_afterN : List Str := ["speech", "wall", "places", "mark", "hearing", "lot"]
theorem sc_after : FnScope sc_afterN ["speech", "wall", "places", "mark"] (defScope s_after) := ⟨rfl, rfl, rfl, by decide +kernel, rfl, by decide +kernel, by decide +kernel⟩
abbrev s_known : Stmt := topS 42
abbrev sc_knownN : List Str := ["speech", "wall", "row", "hearing", "places", "mark"]
theorem sc_known : FnScope sc_knownN ["speech", "wall", "row"] (defScope s_known) := ⟨rfl, rfl, rfl, by decide +kernel, rfl, by decide +kernel, by decide +kernel⟩
abbrev s__law_pen : Stmt := topS 44
abbrev sc__law_penN : List Str := ["script", "cell"]
theorem sc__law_pen : FnScope sc__law_penN ["script"] (defScope s__law_pen) := ⟨rfl, rfl, rfl, by decide +kernel, rfl, by decide +kernel, by decide +kernel⟩
abbrev s__law_draw : Stmt := topS 45
abbrev sc__law_drawN : List Str := ["pen", "many", "rest", "turn", "cell", "mixed"]
theorem sc__law_draw : FnScope sc__law_drawN ["pen", "many"] (defScope s__law_draw) := ⟨rfl, rfl, rfl, by decide +kernel, rfl, by decide +kernel, by decide +kernel⟩
abbrev s__law_pick : Stmt := topS 46
abbrev sc__law_pickN : List Str := ["pen", "some"]
theorem sc__law_pick : FnScope sc__law_pickN ["pen", "some"] (defScope s__law_pick) := ⟨rfl, rfl, rfl, by decide +kernel, rfl, by decide +kernel, by decide +kernel⟩
abbrev s__law_shuffled : Stmt := topS 47
abbrev sc__law_shuffledN : List Str := ["pen", "some", "rest", "found"]
theorem sc__law_shuffled : FnScope sc__law_shuffledN ["pen", "some"] (defScope s__law_shuffled) := ⟨rfl, rfl, rfl, by decide +kernel, rfl, by decide +kernel, by decide +kernel⟩
abbrev s__law_some : Stmt := topS 48
abbrev sc__law_someN : List Str := ["pen", "some", "one"]
theorem sc__law_some : FnScope sc__law_someN ["pen", "some"] (defScope s__law_some) := ⟨rfl, rfl, rfl, by decide +kernel, rfl, by decide +kernel, by decide +kernel⟩
abbrev s__law_arrows : Stmt := topS 49
abbrev sc__law_arrowsN : List Str := ["pen", "many", "sounds", "number", "found", "turn", "arrow"]
theorem sc__law_arrows : FnScope sc__law_arrowsN ["pen", "many", "sounds", "number"] (defScope s__law_arrows) := ⟨rfl, rfl, rfl, by decide +kernel, rfl, by decide +kernel, by decide +kernel⟩
abbrev s__law_marks : Stmt := topS 50
abbrev sc__law_marksN : List Str := ["pen", "sounds", "is_wide", "found", "sound", "way"]
theorem sc__law_marks : FnScope sc__law_marksN ["pen", "sounds", "is_wide"] (defScope s__law_marks) := ⟨rfl, rfl, rfl, by decide +kernel, rfl, by decide +kernel, by decide +kernel⟩
abbrev s__law_plain : Stmt := topS 51
abbrev sc__law_plainN : List Str := ["pen", "many", "number", "sounds", "arrows", "starts", "turn"]
theorem sc__law_plain : FnScope sc__law_plainN ["pen", "many", "number"] (defScope s__law_plain) := ⟨rfl, rfl, rfl, by decide +kernel, rfl, by decide +kernel, by decide +kernel⟩
abbrev s__law_places : Stmt := topS 52
abbrev sc__law_placesN : List Str := ["arrows", "starts", "arrow"]
theorem sc__law_places : FnScope sc__law_placesN ["arrows", "starts"] (defScope s__law_places) := ⟨rfl, rfl, rfl, by decide +kernel, rfl, by decide +kernel, by decide +kernel⟩
abbrev s__law_closed : Stmt := topS 53
abbrev sc__law_closedN : List Str := ["arrows", "marks", "places", "found", "turn", "place", "sound", "later"]
theorem sc__law_closed : FnScope sc__law_closedN ["arrows", "marks", "places"] (defScope s__law_closed) := ⟨rfl, rfl, rfl, by decide +kernel, rfl, by decide +kernel, by decide +kernel⟩
abbrev s__law_behind : Stmt := topS 54
abbrev sc__law_behindN : List Str := ["arrows", "marks", "places", "mark", "place", "sound", "later"]
theorem sc__law_behind : FnScope sc__law_behindN ["arrows", "marks", "places", "mark"] (defScope s__law_behind) := ⟨rfl, rfl, rfl, by decide +kernel, rfl, by decide +kernel, by decide +kernel⟩
abbrev s__law_all_marks : Stmt := topS 55
abbrev sc__law_all_marksN : List Str := ["arrows", "marks", "found", "sound", "mark"]
theorem sc__law_all_marks : FnScope sc__law_all_marksN ["arrows", "marks"] (defScope s__law_all_marks) := ⟨rfl, rfl, rfl, by decide +kernel, rfl, by decide +kernel, by decide +kernel⟩
abbrev s__law_one_right : Stmt := topS 56
abbrev sc__law_one_rightN : List Str := ["pen", "arrows", "starts", "marks", "speech", "wall", "places", "every", "one", "other", "mark", "mine", "its", "row", "here", "turn", "some", "led", "at", "sounds", "names", "turned", "place", "sound", "later", "start", "elsewhere"]
theorem sc__law_one_right : FnScope sc__law_one_rightN ["pen"] (defScope s__law_one_right) := ⟨rfl, rfl, rfl, by decide +kernel, rfl, by decide +kernel, by decide +kernel⟩
abbrev s_law : Stmt := topS 57
abbrev sc_lawN : List Str := ["script", "pen", "lap"]
theorem sc_law : FnScope sc_lawN ["script"] (defScope s_law) := ⟨rfl, rfl, rfl, by decide +kernel, rfl, by decide +kernel, by decide +kernel⟩
end TW
set_option Elab.async false
set_option linter.all false
set_option maxRecDepth 100000
set_option maxHeartbeats 4000000
/-! the checks -/
namespace TW
open PySem PySem.Spec PyProof.Rows L2 RZ StX
open Evl (Ex)
/-- the module's names that the bodies read -/
structure Txt (mg : Str → Option Value) : Prop where
  isinstance : mg "isinstance" = none
  len : mg "len" = none
  all : mg "all" = none
  any : mg "any" = none
  sorted : mg "sorted" = none
  zip : mg "zip" = none
  enumerate : mg "enumerate" = none
  range : mg "range" = none
  abs : mg "abs" = none
  set : mg "set" = none
  tuple : mg "tuple" = none
  list : mg "list" = none
  dict : mg "dict" = none
  int : mg "int" = none
  bool : mg "bool" = none
  str : mg "str" = none
  c_SIGNS : ∃ u, mg "SIGNS" = some u ∧ L2.RelV (.str "abcdefghijklmnopqrstuvwxyz") u
  c_MARK_SIGNS : ∃ u, mg "MARK_SIGNS" = some u ∧ L2.RelV (.str "abcdefghijklmnopqrstuvwxyz+-") u
  c_MOST_SIGNS : ∃ u, mg "MOST_SIGNS" = some u ∧ L2.RelV (.int 8) u
  c_MOST_PLACE : ∃ u, mg "MOST_PLACE" = some u ∧ L2.RelV (.int 399) u
  c_MOST_ARROWS : ∃ u, mg "MOST_ARROWS" = some u ∧ L2.RelV (.int 2000) u
  c_ARROW : ∃ u, mg "ARROW" = some u ∧ L2.RelV (.int 3) u
  c_MOST_MARKS : ∃ u, mg "MOST_MARKS" = some u ∧ L2.RelV (.int 6) u
theorem zc {X : Cx} {x : Str} {v : V} {pos : Pos} (c : ∃ u, X.mg x = some u ∧ L2.RelV v u) (hg : Gl X x := by rfl) (hd : (x == ("__debug__" : Str)) = false := by decide) : PE X (.Name x pos) (tC v) := by
  obtain ⟨u, h1, h2⟩ := c
  exact pe_glob hg h1 h2 hd

/-! what they tell -/
def isInt : PyData → Bool
  | .int _ => true
  | _ => false
def isWithin (lo hi : Int) : PyData → Bool
  | .int i => decide (lo ≤ i) && decide (i ≤ hi)
  | _ => false
def isListed : PyData → Bool
  | .list _ => true
  | .tuple _ => true
  | _ => false
def occB (big small : Str) : Bool := !(Builtin.Str.occurrences big small 0 big.length 1).isEmpty
def isSound : PyData → Bool
  | .str x => decide ((x.length : Int) = 1) && occB "abcdefghijklmnopqrstuvwxyz" x
  | _ => false
def markS (x : Str) : Bool := (decide ((1 : Int) ≤ x.length) && decide ((x.length : Int) ≤ 8)) && x.cps.toList.all fun c => occB "abcdefghijklmnopqrstuvwxyz+-" ⟨#[c]⟩
def isMark : PyData → Bool
  | .str x => markS x
  | _ => false
def isHeard : PyData → Bool
  | .str x => decide (x = "") || markS x
  | _ => false
def asc : List Int → Bool
  | x :: y :: r => decide (x < y) && asc (y :: r)
  | _ => true
theorem asc_zip : ∀ l : List Int, asc l = ((l.zip (l.drop 1)).map fun b => decide (b.1 < b.2)).all id
  | [] => rfl
  | [_] => rfl
  | x :: y :: r => by
    have ih := asc_zip (y :: r)
    show (decide (x < y) && asc (y :: r)) = _
    rw [ih]
    rfl
/-- a check of the first n arguments: they are data, it tells b and changes nothing -/
def spChk (K : PySem.W.Frag) (b : List PyData → Option Bool) (n : Nat) : Sp := fun vs H Q _ => ∃ (F : Hp) (ds : List PyData) (r : Bool), Sees F H ∧ DpAll K F vs ds ∧ b ds = some r ∧ ds.length = n ∧ ∀ F' H', Gr [] F H F' H' → Q (.bl r) H'
def bInt : List PyData → Option Bool
  | [d] => some (isInt d)
  | _ => none
section
variable {P : Program} {w : World} {K : PySem.W.Frag} {mg : Str → Option Value} {base : Heap}
def strZ : PyData → Nat → Prop
  | .str x, n => x.length ≤ n
  | _, _ => True
def toI : PyData → Int
  | .int i => i
  | _ => 0
def isLot : PyData → Bool
  | .list ds => ds.all (isWithin 0 399) && asc (ds.map toI)
  | .tuple ds => ds.all (isWithin 0 399) && asc (ds.map toI)
  | _ => false
theorem within_ints : ∀ {ds : List PyData}, ds.all (isWithin 0 399) = true → ds = (ds.map toI).map .int
  | [], _ => rfl
  | d :: ds, h => by
    rw [List.all_cons, Bool.and_eq_true] at h
    have ih := within_ints h.2
    cases d with
    | int i => exact congrArg (PyData.int i :: ·) ih
    | _ => exact absurd h.1 (by simp [isWithin])
theorem inV_ints (i : Int) (o : List Int) : inV (.int i) (o.map V.int) = decide (i ∈ o) := by
  unfold inV
  rw [List.any_map]
  induction o with
  | nil => rfl
  | cons j o ih =>
    rw [List.any_cons, ih]
    show ((j == i) || _) = _
    by_cases h : j = i
    · subst h; simp
    · have h' : (j == i) = false := by simpa using h
      rw [h', Bool.false_or]
      simp [Ne.symm h]
theorem flat_ints (o : List Int) : (o.map V.int).all flatV = true := by
  rw [List.all_map]
  exact List.all_eq_true.mpr fun _ _ => rfl
def seqZ : PyData → Nat → Prop
  | .list ds, n => ds.length ≤ n
  | .tuple ds, n => ds.length ≤ n
  | _, _ => True
theorem listed_seq {d : PyData} {n : Nat} (h : isListed d = true) (hz : seqZ d n) : ∃ ds, isSeq d ds ∧ ds.length ≤ n ∧ isLot d = (ds.all (isWithin 0 399) && asc (ds.map toI)) := by
  cases d with
  | list ds => exact ⟨ds, .inl rfl, hz, rfl⟩
  | tuple ds => exact ⟨ds, .inr rfl, hz, rfl⟩
  | _ => exact absurd h (by simp [isListed])
theorem lot_no {d : PyData} (h : ¬ isListed d = true) : isLot d = false := by
  cases d with
  | list ds => exact absurd rfl h
  | tuple ds => exact absurd rfl h
  | _ => rfl
def spMark (K : PySem.W.Frag) : Sp := fun vs H Q _ => ∃ (F : Hp) (v : V) (d : PyData), vs = [v] ∧ Sees F H ∧ Dp K F v d ∧ strZ d 1000 ∧ ∀ F' H', Gr [] F H F' H' → Q (.bl (isMark d)) H'
def spHeard (K : PySem.W.Frag) : Sp := fun vs H Q _ => ∃ (F : Hp) (v : V) (d : PyData), vs = [v] ∧ Sees F H ∧ Dp K F v d ∧ strZ d 1000 ∧ ∀ F' H', Gr [] F H F' H' → Q (.bl (isHeard d)) H'
def spLot (K : PySem.W.Frag) : Sp := fun vs H Q _ => ∃ (F : Hp) (v : V) (d : PyData), vs = [v] ∧ Sees F H ∧ Dp K F v d ∧ seqZ d 5000 ∧ ∀ F' H', Gr [] F H F' H' → Q (.bl (isLot d)) H'
def spInside (K : PySem.W.Frag) : Sp := fun vs H Q _ => ∃ (F : Hp) (v u : V) (d e : PyData) (l o : List Int), vs = [v, u] ∧ Sees F H ∧ Dp K F v d ∧ Dp K F u e ∧ isSeq d (l.map .int) ∧ isSeq e (o.map .int) ∧ l.length ≤ 5000 ∧ o.length ≤ 5000 ∧
  ∀ F' H', Gr [] F H F' H' → Q (.bl ((l.map fun i => decide (i ∈ o)).all id)) H'
def spArrow (K : PySem.W.Frag) : Sp := fun vs H Q _ => ∃ (F : Hp) (v : V) (d : PyData) (p : Int) (x : Str) (r : Int), vs = [v] ∧ Sees F H ∧ Dp K F v d ∧ isSeq d [.int p, .str x, .int r] ∧ x.length ≤ 1000 ∧
  ∀ F' H', Gr [] F H F' H' → Q (.bl (isSound (.str x) && (isWithin 0 399 (.int p) && isWithin 0 399 (.int r)))) H'
def spIsInt (K : PySem.W.Frag) : Sp := fun vs H Q _ => ∃ (F : Hp) (v : V) (d : PyData), vs = [v] ∧ Sees F H ∧ Dp K F v d ∧ ∀ F' H', Gr [] F H F' H' → Q (.bl (isInt d)) H'
def spWithin (K : PySem.W.Frag) : Sp := fun vs H Q _ => ∃ (F : Hp) (v : V) (d : PyData) (lo hi : Int), vs = [v, .int lo, .int hi] ∧ Sees F H ∧ Dp K F v d ∧ ∀ F' H', Gr [] F H F' H' → Q (.bl (isWithin lo hi d)) H'
def spListed (K : PySem.W.Frag) : Sp := fun vs H Q _ => ∃ (F : Hp) (v : V) (d : PyData), vs = [v] ∧ Sees F H ∧ Dp K F v d ∧ ∀ F' H', Gr [] F H F' H' → Q (.bl (isListed d)) H'
def spAsc (K : PySem.W.Frag) : Sp := fun vs H Q _ => ∃ (F : Hp) (v : V) (d : PyData) (l : List Int), vs = [v] ∧ Sees F H ∧ Dp K F v d ∧ isSeq d (l.map .int) ∧ l.length ≤ 5000 ∧ ∀ F' H', Gr [] F H F' H' → Q (.bl (asc l)) H'
def spSound (K : PySem.W.Frag) : Sp := fun vs H Q _ => ∃ (F : Hp) (v : V) (d : PyData), vs = [v] ∧ Sees F H ∧ Dp K F v d ∧ strZ d 1000 ∧ ∀ F' H', Gr [] F H F' H' → Q (.bl (isSound d)) H'
theorem ok_is_integer {f : Addr} {fd : FuncData} (F : Fun K "is_integer" "is_integer" s_is_integer f fd) (T : Txt mg)  : FnOk P w K mg base CX0 1 f fd ["value"] (spIsInt K) := by
  refine F.ok sc_is_integer (fun vs H Q E h => ?_) (fun cdv A outer s H vs Q E hr h => ?_)
  · obtain ⟨F0, v, d, rfl, fs, hd, q⟩ := h
    rfl
  · obtain ⟨F0, v, d, rfl, fs, hd, q⟩ := h
    have hu64 := hr.units
    refine ⟨_, (pss_one (ps_ret (pe_and (pe_callB (cr_isi K) (by rfl) T.isinstance bt_isinstance (pa_cons (pv 0) (pa_cons (zty T.int bt_int) pa_nil))) (pe_one (pe_not (pe_callB (cr_isi K) (by rfl) T.isinstance bt_isinstance (pa_cons (pv 0) (pa_cons (zty T.bool bt_bool) pa_nil)))))))), ?_⟩
    have h1 := Dp.sees fs hd
    have q0 := q F0 H (Gr.refl fs)
    cases h1 with
    | int i => exact ⟨_, rfl, isi_dp (.int i) (T := "int") rfl ⟨_, rfl, _, rfl, isi_dp (.int i) (T := "bool") rfl ⟨_, rfl, q0⟩⟩⟩
    | bl b => exact ⟨_, rfl, isi_dp (.bl b) (T := "int") rfl ⟨_, rfl, _, rfl, isi_dp (.bl b) (T := "bool") rfl ⟨_, rfl, q0⟩⟩⟩
    | non => exact ⟨_, rfl, isi_dp .non (T := "int") rfl ⟨_, rfl, q0⟩⟩
    | str x => exact ⟨_, rfl, isi_dp (.str x) (T := "int") rfl ⟨_, rfl, q0⟩⟩
    | lst a b => exact ⟨_, rfl, isi_dp (.lst a b) (T := "int") rfl ⟨_, rfl, q0⟩⟩
    | tup a b => exact ⟨_, rfl, isi_dp (.tup a b) (T := "int") rfl ⟨_, rfl, q0⟩⟩
theorem ok_is_within {f : Addr} {fd : FuncData} (F : Fun K "is_within" "is_within" s_is_within f fd) (T : Txt mg) (C_is_integer : Cal P w K mg base "is_integer" 1 ["value"] [] (spIsInt K)) : FnOk P w K mg base CX0 2 f fd ["value", "least", "most"] (spWithin K) := by
  refine F.ok sc_is_within (fun vs H Q E h => ?_) (fun cdv A outer s H vs Q E hr h => ?_)
  · obtain ⟨F0, v, d, lo, hi, rfl, fs, hd, q⟩ := h
    rfl
  · obtain ⟨F0, v, d, lo, hi, rfl, fs, hd, q⟩ := h
    have hu64 := hr.units
    refine ⟨_, (pss_one (ps_ret (pe_and (pe_cal C_is_integer (hr.mono (by decide)) (pa_cons (pv 0) pa_nil)) (pe_one (pe_chain op_le op_le (pv 1) (pv 0) (pv 2) rfl))))), ?_⟩
    refine ⟨v, rfl, F0, v, d, rfl, fs, hd, fun F1 H1 g => ⟨_, rfl, ?_⟩⟩
    cases hd with
    | int i =>
      refine iteT ⟨_, rfl, _, rfl, _, _, rfl, rfl, _, rfl, ?_⟩
      refine ite2 (fun h1 => ?_) (fun h1 => ?_)
      · refine ⟨_, rfl, _, _, rfl, rfl, ?_⟩
        have z := q F1 H1 g
        rw [show isWithin lo hi (.int i) = decide (i ≤ hi) by simp [isWithin, h1]] at z
        exact z
      · have z := q F1 H1 g
        rw [show isWithin lo hi (.int i) = false by simp [isWithin, h1]] at z
        exact z
    | bl b => exact q F1 H1 g
    | non => exact q F1 H1 g
    | str x => exact q F1 H1 g
    | lst a b => exact q F1 H1 g
    | tup a b => exact q F1 H1 g
theorem ok_is_listed {f : Addr} {fd : FuncData} (F : Fun K "is_listed" "is_listed" s_is_listed f fd) (T : Txt mg)  : FnOk P w K mg base CX0 1 f fd ["value"] (spListed K) := by
  refine F.ok sc_is_listed (fun vs H Q E h => ?_) (fun cdv A outer s H vs Q E hr h => ?_)
  · obtain ⟨F0, v, d, rfl, fs, hd, q⟩ := h
    rfl
  · obtain ⟨F0, v, d, rfl, fs, hd, q⟩ := h
    have hu64 := hr.units
    refine ⟨_, (pss_one (ps_ret (pe_callB (cr_isiT' K) (by rfl) T.isinstance bt_isinstance (pa_cons (pv 0) (pa_cons (pe_tup (pa_cons (zty T.list bt_list) (pa_cons (zty T.tuple bt_tuple) pa_nil))) pa_nil))))), ?_⟩
    refine ⟨v, rfl, by show 2 ≤ sizeLine; decide, fun p hp => ?_⟩
    have g : Gr [] F0 H F0 (upd H p (.tup [.ty "list", .ty "tuple"])) := (Gr.refl fs).newM hp
    have q0 := q _ _ g
    have h1 := Dp.sees g.fh hd
    cases h1 with
    | int i => exact isiT_dp (.int i) upd_same rfl q0
    | bl b => exact isiT_dp (.bl b) upd_same rfl q0
    | non => exact isiT_dp .non upd_same rfl q0
    | str x => exact isiT_dp (.str x) upd_same rfl q0
    | lst a b => exact isiT_dp (.lst a b) upd_same rfl q0
    | tup a b => exact isiT_dp (.tup a b) upd_same rfl q0
theorem ok_is_sound {f : Addr} {fd : FuncData} (F : Fun K "is_sound" "is_sound" s_is_sound f fd) (T : Txt mg)  : FnOk P w K mg base CX0 1 f fd ["value"] (spSound K) := by
  refine F.ok sc_is_sound (fun vs H Q E h => ?_) (fun cdv A outer s H vs Q E hr h => ?_)
  · obtain ⟨F0, v, d, rfl, fs, hd, hx, q⟩ := h
    rfl
  · obtain ⟨F0, v, d, rfl, fs, hd, hx, q⟩ := h
    have hu64 := hr.units
    refine ⟨_, (pss_one (ps_ret (pe_and (pe_callB (cr_isi K) (by rfl) T.isinstance bt_isinstance (pa_cons (pv 0) (pa_cons (zty T.str bt_str) pa_nil))) (pe_and (pe_cmpR op_eq (pe_callB cr_lenS (by rfl) T.len bt_len (pa_cons (pv 0) pa_nil)) pe_int (nomark _)) (pe_one (pe_cmpR op_inS (pv 0) (zc T.c_SIGNS) rfl)))))), ?_⟩
    have h1 := Dp.sees fs hd
    have q0 := q F0 H (Gr.refl fs)
    cases h1 with
    | str x =>
      have lz : x.length ≤ sizeLine := Nat.le_trans hx (by rw [sizeLine_eq]; decide)
      refine ⟨_, rfl, isi_dp (.str x) (T := "str") rfl ⟨_, rfl, _, rfl, .mk ⟨x, rfl, lz, rfl, _, rfl, ?_⟩⟩⟩
      refine ite2 (fun e => ?_) (fun e => ?_)
      · have e2 : (x.length : Int) = 1 := V.int.inj (of_decide_eq_true e)
        rw [show isSound (.str x) = occB "abcdefghijklmnopqrstuvwxyz" x by simp [isSound, e2]] at q0
        exact ⟨_, rfl, .mk ⟨_, _, rfl, rfl, q0⟩⟩
      · have e2 : ¬ (x.length : Int) = 1 := fun z => e (decide_eq_true (congrArg V.int z))
        rw [show isSound (.str x) = false by simp [isSound, e2]] at q0
        exact q0
    | int i => exact ⟨_, rfl, isi_dp (.int i) (T := "str") rfl ⟨_, rfl, q0⟩⟩
    | bl b => exact ⟨_, rfl, isi_dp (.bl b) (T := "str") rfl ⟨_, rfl, q0⟩⟩
    | non => exact ⟨_, rfl, isi_dp .non (T := "str") rfl ⟨_, rfl, q0⟩⟩
    | lst a b => exact ⟨_, rfl, isi_dp (.lst a b) (T := "str") rfl ⟨_, rfl, q0⟩⟩
    | tup a b => exact ⟨_, rfl, isi_dp (.tup a b) (T := "str") rfl ⟨_, rfl, q0⟩⟩
theorem ok_ascends {f : Addr} {fd : FuncData} (F : Fun K "ascends" "ascends" s_ascends f fd) (T : Txt mg)  : FnOk P w K mg base CX0 1 f fd ["value"] (spAsc K) := by
  refine F.ok sc_ascends (fun vs H Q E h => ?_) (fun cdv A outer s H vs Q E hr h => ?_)
  · obtain ⟨F0, v, d, l, rfl, fs, hd, hq, hz, q⟩ := h
    rfl
  · obtain ⟨F0, v, d, l, rfl, fs, hd, hq, hz, q⟩ := h
    have hu64 := hr.units
    refine ⟨_, (pss_one (ps_ret (pe_callB (cr_allD K) (by rfl) T.all bt_all (pa_cons (pe_lc (own := [("one", 1), ("other", 2)]) rfl sc_ascends.nd (pi_zipD K T.zip (pa_cons (pv 0) (pa_cons (pe_slice (sl_LA K) (pv 0) (po_some pe_int) po_none) pa_nil))) (blkOk_by (N := sc_ascendsN) (sc := defScope s_ascends) (by decide +kernel)) (fun _ _ _ _ _ => (zpg (n := 2) K (pgs_cons (zg (i := 1) sc_ascends.nd) (pgs_cons (zg (i := 2) sc_ascends.nd) pgs_nil)))) (fun _ _ _ _ _ => pts_nil) (fun _ _ _ _ _ => (pe_cmpR op_lt (pv 1) (pv 2) (nomark _)))) pa_nil)))), ?_⟩
    refine ⟨v, rfl, v, rfl, 1, rfl, slQ_dp hd hq fs fun r e F1 H1 g t he => ?_⟩
    refine zip_walk (hd.ex g.ff) he t g.fh fun J xs ys G w hG hx hy D hD => ?_
    have e1 : cutD (l.map PyData.int) (some 1) none = (l.drop 1).map .int := by rw [show (1 : Int) = ((1 : Nat) : Int) from rfl, cutD_from, List.map_drop]
    rw [e1, dps_int] at hy
    rw [dps_int] at hx
    subst hx hy
    have hn : (l.zip (l.drop 1)).length = min (l.map PyData.int).length (cutD (l.map PyData.int) (some 1) none).length := by rw [e1]; simp
    refine lc_bools K (bs := l.zip (l.drop 1)) (f := fun b => decide (b.1 < b.2)) (Im := fun b x F => ∃ T, x = .ref T ∧ F T = some (.tup [.int b.1, .int b.2])) (by rw [hn]; exact w) g.fh hG (by rw [List.length_zip]; omega) (fun i b x F' H' H'' hb g1 y => ?_)
      (fun b x F' H' _ g1 im => ?_) hD fun F' H' g1 fD hDc => ?_
    · obtain ⟨T, x1, y1, rfl, hT, rfl, h1, h2⟩ := y
      refine ⟨_, (Gr.refl g1.fh).new hT, T, rfl, ?_⟩
      obtain ⟨i1, i2⟩ := List.getElem?_zip_eq_some.mp hb
      have h1' : (l.map V.int)[i]? = some x1 := h1
      have h2' : ((l.drop 1).map V.int)[i]? = some y1 := h2
      rw [List.getElem?_map, i1] at h1'
      rw [List.getElem?_map, i2] at h2'
      cases h1'
      cases h2'
      exact upd_same
    · obtain ⟨T, rfl, hT⟩ := im
      intro Yes No h0 h1
      refine ⟨T, [.int b.1, .int b.2], rfl, sees_t g1.fh (.inl (.inl hT)), rfl, _, _, rfl, _, _, rfl, rfl, rfl, yesI ⟨_, rfl, _, rfl, _, _, rfl, rfl, ?_⟩⟩
      exact h1 rfl _ F' H' (Gr.refl g1.fh) rfl
    · refine all_new hDc ?_
      have z := q F' H' (g.trans g1)
      rw [asc_zip] at z
      exact z
theorem ok_is_mark {f : Addr} {fd : FuncData} (F : Fun K "is_mark" "is_mark" s_is_mark f fd) (T : Txt mg)  : FnOk P w K mg base CX0 1 f fd ["value"] (spMark K) := by
  refine F.ok sc_is_mark (fun vs H Q E h => ?_) (fun cdv A outer s H vs Q E hr h => ?_)
  · obtain ⟨F0, v, d, rfl, fs, hd, hx, q⟩ := h
    rfl
  · obtain ⟨F0, v, d, rfl, fs, hd, hx, q⟩ := h
    have hu64 := hr.units
    refine ⟨_, (pss_one (ps_ret (pe_and (pe_callB (cr_isi K) (by rfl) T.isinstance bt_isinstance (pa_cons (pv 0) (pa_cons (zty T.str bt_str) pa_nil))) (pe_and (pe_chain op_le op_le pe_int (pe_callB cr_lenS (by rfl) T.len bt_len (pa_cons (pv 0) pa_nil)) (zc T.c_MOST_SIGNS) rfl) (pe_one (pe_callB (cr_allD K) (by rfl) T.all bt_all (pa_cons (pe_lc (own := [("sign", 1)]) rfl sc_is_mark.nd (pi_str (pv 0)) (blkOk_by (N := sc_is_markN) (sc := defScope s_is_mark) (by decide +kernel)) (fun _ _ _ _ _ => (zg (i := 1) sc_is_mark.nd)) (fun _ _ _ _ _ => pts_nil) (fun _ _ _ _ _ => (pe_cmpR op_inS (pv 1) (zc T.c_MARK_SIGNS) rfl))) pa_nil))))))), ?_⟩
    have h1 := Dp.sees fs hd
    have q0 := q F0 H (Gr.refl fs)
    cases h1 with
    | str x =>
      have lz : x.length ≤ sizeLine := Nat.le_trans hx (by rw [sizeLine_eq]; decide)
      refine ⟨_, rfl, isi_dp (.str x) (T := "str") rfl ⟨_, rfl, _, rfl, .mk ⟨x, rfl, lz, _, _, rfl, rfl, _, rfl, ?_⟩⟩⟩
      refine ite2 (fun e1 => ?_) (fun e1 => ?_)
      · have e1 : (1 : Int) ≤ x.length := of_decide_eq_true e1
        refine ⟨_, _, rfl, rfl, _, rfl, ?_⟩
        refine ite2 (fun e2 => ?_) (fun e2 => ?_)
        · have e2 : (x.length : Int) ≤ 8 := of_decide_eq_true e2
          refine ⟨_, rfl, x, rfl, fun D hD => ?_⟩
          refine lc_bools K (bs := x.cps.toList) (f := fun c => occB "abcdefghijklmnopqrstuvwxyz+-" ⟨#[c]⟩) (Im := fun c v F => v = .str ⟨#[c]⟩) (by rw [Array.length_toList]; exact walk_str) fs (fun _ _ => True.intro) (by rw [Array.length_toList]; show x.length ≤ 100000; omega)
            (fun i c v F' H' H'' hc g1 y => ?_) (fun c v F' H' _ g1 im => ?_) hD fun F' H' g1 fD hDc => ?_
          · obtain ⟨rfl, c2, hc2, rfl⟩ := y
            rw [Array.getElem?_toList, hc2] at hc
            cases hc
            exact ⟨F', Gr.refl g1.fh, rfl⟩
          · subst im
            exact turn1 rfl fun Yes h => ⟨_, rfl, .mk ⟨_, _, rfl, rfl, h _ _ _ (Gr.refl g1.fh) rfl⟩⟩
          · have q1 := q F' H' g1
            rw [show isMark (.str x) = (x.cps.toList.map fun c => occB "abcdefghijklmnopqrstuvwxyz+-" ⟨#[c]⟩).all id by simp [isMark, markS, e1, e2, List.all_map]] at q1
            exact all_new hDc q1
        · have e2 : ¬ (x.length : Int) ≤ 8 := fun z => e2 (decide_eq_true z)
          rw [show isMark (.str x) = false by simp [isMark, markS, e2]] at q0
          exact q0
      · have e1 : ¬ (1 : Int) ≤ x.length := fun z => e1 (decide_eq_true z)
        rw [show isMark (.str x) = false by simp [isMark, markS, e1]] at q0
        exact ⟨_, rfl, q0⟩
    | int i => exact ⟨_, rfl, isi_dp (.int i) (T := "str") rfl ⟨_, rfl, q0⟩⟩
    | bl b => exact ⟨_, rfl, isi_dp (.bl b) (T := "str") rfl ⟨_, rfl, q0⟩⟩
    | non => exact ⟨_, rfl, isi_dp .non (T := "str") rfl ⟨_, rfl, q0⟩⟩
    | lst a b => exact ⟨_, rfl, isi_dp (.lst a b) (T := "str") rfl ⟨_, rfl, q0⟩⟩
    | tup a b => exact ⟨_, rfl, isi_dp (.tup a b) (T := "str") rfl ⟨_, rfl, q0⟩⟩
theorem ok_is_heard {f : Addr} {fd : FuncData} (F : Fun K "is_heard" "is_heard" s_is_heard f fd) (T : Txt mg) (C_is_mark : Cal P w K mg base "is_mark" 1 ["value"] [] (spMark K)) : FnOk P w K mg base CX0 2 f fd ["value"] (spHeard K) := by
  refine F.ok sc_is_heard (fun vs H Q E h => ?_) (fun cdv A outer s H vs Q E hr h => ?_)
  · obtain ⟨F0, v, d, rfl, fs, hd, hx, q⟩ := h
    rfl
  · obtain ⟨F0, v, d, rfl, fs, hd, hx, q⟩ := h
    have hu64 := hr.units
    refine ⟨_, (pss_one (ps_ret (pe_and (pe_callB (cr_isi K) (by rfl) T.isinstance bt_isinstance (pa_cons (pv 0) (pa_cons (zty T.str bt_str) pa_nil))) (pe_one (pe_or (pe_cmpR op_eq (pv 0) pe_str (nomark _)) (pe_one (pe_cal C_is_mark (hr.mono (by decide)) (pa_cons (pv 0) pa_nil)))))))), ?_⟩
    have h1 := Dp.sees fs hd
    have q0 := q F0 H (Gr.refl fs)
    cases h1 with
    | str x =>
      refine ⟨_, rfl, isi_dp (.str x) (T := "str") rfl ⟨_, rfl, _, rfl, rfl, _, rfl, ?_⟩⟩
      refine ite2 (fun e => ?_) (fun e => ?_)
      · have e : x = "" := V.str.inj (of_decide_eq_true e)
        rw [show isHeard (.str x) = true by simp [isHeard, e]] at q0
        exact q0
      · have e : ¬ x = "" := fun z => e (decide_eq_true (congrArg V.str z))
        refine ⟨_, rfl, F0, _, .str x, rfl, fs, .str x, hx, fun F1 H1 g => ?_⟩
        have q1 := q F1 H1 g
        rw [show isHeard (.str x) = isMark (.str x) by simp [isHeard, isMark, e]] at q1
        exact q1
    | int i => exact ⟨_, rfl, isi_dp (.int i) (T := "str") rfl ⟨_, rfl, q0⟩⟩
    | bl b => exact ⟨_, rfl, isi_dp (.bl b) (T := "str") rfl ⟨_, rfl, q0⟩⟩
    | non => exact ⟨_, rfl, isi_dp .non (T := "str") rfl ⟨_, rfl, q0⟩⟩
    | lst a b => exact ⟨_, rfl, isi_dp (.lst a b) (T := "str") rfl ⟨_, rfl, q0⟩⟩
    | tup a b => exact ⟨_, rfl, isi_dp (.tup a b) (T := "str") rfl ⟨_, rfl, q0⟩⟩
theorem ok_is_lot {f : Addr} {fd : FuncData} (F : Fun K "is_lot" "is_lot" s_is_lot f fd) (T : Txt mg) (C_is_listed : Cal P w K mg base "is_listed" 1 ["value"] [] (spListed K)) (C_is_within : Cal P w K mg base "is_within" 2 ["value", "least", "most"] [] (spWithin K)) (C_ascends : Cal P w K mg base "ascends" 1 ["value"] [] (spAsc K)) : FnOk P w K mg base CX0 3 f fd ["value"] (spLot K) := by
  refine F.ok sc_is_lot (fun vs H Q E h => ?_) (fun cdv A outer s H vs Q E hr h => ?_)
  · obtain ⟨F0, v, d, rfl, fs, hd, hx, q⟩ := h
    rfl
  · obtain ⟨F0, v, d, rfl, fs, hd, hx, q⟩ := h
    have hu64 := hr.units
    refine ⟨_, (pss_one (ps_ret (pe_and (pe_cal C_is_listed (hr.mono (by decide)) (pa_cons (pv 0) pa_nil)) (pe_and (pe_callB (cr_allD K) (by rfl) T.all bt_all (pa_cons (pe_lc (own := [("place", 1)]) rfl sc_is_lot.nd (zseq K (pv 0)) (blkOk_by (N := sc_is_lotN) (sc := defScope s_is_lot) (by decide +kernel)) (fun _ _ _ _ _ => (zg (i := 1) sc_is_lot.nd)) (fun _ _ _ _ _ => pts_nil) (fun _ _ _ _ _ => (pe_cal C_is_within (hr.mono (by decide)) (pa_cons (pv 1) (pa_cons pe_int (pa_cons (zc T.c_MOST_PLACE) pa_nil)))))) pa_nil)) (pe_one (pe_cal C_ascends (hr.mono (by decide)) (pa_cons (pv 0) pa_nil))))))), ?_⟩
    refine ⟨v, rfl, F0, v, d, rfl, fs, hd, fun F1 H1 g => ⟨_, rfl, ?_⟩⟩
    refine ite2 (fun hl => ?_) (fun hl => ?_)
    · obtain ⟨ds, hq, hz, hL⟩ := listed_seq hl hx
      refine ⟨v, rfl, seq_walk (hd.ex g.ff) hq g.fh fun J xs G w hG hxs hlen D hD => ?_⟩
      refine lc_bools K (bs := ds) (f := isWithin 0 399) (Im := fun e x F => Dp K F x e) (by rw [← hlen]; exact w) g.fh hG (by omega) (fun i e x F' H' H'' he g1 y => ?_) (fun e x F' H' _ g1 im => ?_) hD fun F' H' g1 fD hDc => ?_
      · obtain ⟨rfl, hxi⟩ := y
        obtain ⟨e', h1, h2⟩ := hxs.get hxi
        rw [he] at h1
        cases h1
        exact ⟨F', Gr.refl g1.fh, h2.ex g1.ff⟩
      · exact turn1 rfl fun Yes h => ⟨_, rfl, F', x, e, 0, 399, rfl, g1.fh, im, fun F2 H2 g2 => h _ _ _ g2 rfl⟩
      · refine all_new hDc ⟨_, rfl, ?_⟩
        have g' := g.trans g1
        refine ite2 (fun ea => ?_) (fun ea => ?_)
        · have ea' : ds.all (isWithin 0 399) = true := by rw [List.all_map] at ea; exact ea
          have ei := within_ints ea'
          refine ⟨v, rfl, F', v, d, ds.map toI, rfl, g1.fh, hd.ex g'.ff, (by rw [← ei]; exact hq), (by rw [List.length_map]; exact hz), fun F2 H2 g2 => ?_⟩
          have z := q F2 H2 (g'.trans g2)
          rw [hL, ea', Bool.true_and] at z
          exact z
        · have ea' : ds.all (isWithin 0 399) = false := by rw [List.all_map] at ea; exact Bool.eq_false_iff.mpr ea
          have z := q F' H' g'
          rw [hL, ea', Bool.false_and] at z
          exact z
    · have z := q F1 H1 g
      rw [lot_no hl] at z
      exact z
theorem ok_is_inside {f : Addr} {fd : FuncData} (F : Fun K "is_inside" "is_inside" s_is_inside f fd) (T : Txt mg)  : FnOk P w K mg base CX0 1 f fd ["lot", "other"] (spInside K) := by
  refine F.ok sc_is_inside (fun vs H Q E h => ?_) (fun cdv A outer s H vs Q E hr h => ?_)
  · obtain ⟨F0, v, u, d, e, l, o, rfl, fs, hd, he, hq, ho, hz, hz2, q⟩ := h
    rfl
  · obtain ⟨F0, v, u, d, e, l, o, rfl, fs, hd, he, hq, ho, hz, hz2, q⟩ := h
    have hu64 := hr.units
    refine ⟨_, (pss_one (ps_ret (pe_callB (cr_allD K) (by rfl) T.all bt_all (pa_cons (pe_lc (own := [("item", 2)]) rfl sc_is_inside.nd (zseq K (pv 0)) (blkOk_by (N := sc_is_insideN) (sc := defScope s_is_inside) (by decide +kernel)) (fun _ _ _ _ _ => (zg (i := 2) sc_is_inside.nd)) (fun _ _ _ _ _ => pts_nil) (fun _ _ _ _ _ => (pe_cmpR (op_inK K) (pv 2) (pv 1) rfl))) pa_nil)))), ?_⟩
    refine ⟨v, rfl, seq_walk hd hq fs fun J xs G w hG hxs hlen D hD => ?_⟩
    rw [dps_int] at hxs
    subst hxs
    obtain ⟨a, ys, rfl, hy, hys⟩ := dp_seq he ho
    rw [dps_int] at hys
    subst hys
    refine lc_bools K (bs := l) (f := fun i => decide (i ∈ o)) (Im := fun i x F => x = .int i) (by rw [List.length_map] at w; exact w) fs hG (by omega) (fun i e x F' H' H'' he g1 y => ?_) (fun e x F' H' _ g1 im => ?_) hD fun F' H' g1 fD hDc => ?_
    · obtain ⟨rfl, hxi⟩ := y
      rw [List.getElem?_map, he] at hxi
      cases hxi
      exact ⟨F', Gr.refl g1.fh, rfl⟩
    · subst im
      refine turn1 rfl fun Yes h => ⟨_, rfl, _, rfl, .mk ⟨a, _, rfl, hy.imp (fun z => sees_l g1.fh (Evl.ex_l g1.ff z)) (fun z => sees_t g1.fh (Evl.ex_t g1.ff z)), rfl, flat_ints o, ?_⟩⟩
      rw [inV_ints]
      exact h _ _ _ (Gr.refl g1.fh) rfl
    · exact all_new hDc (q F' H' g1)
theorem ok_is_arrow {f : Addr} {fd : FuncData} (F : Fun K "is_arrow" "is_arrow" s_is_arrow f fd) (T : Txt mg) (C_is_listed : Cal P w K mg base "is_listed" 1 ["value"] [] (spListed K)) (C_is_within : Cal P w K mg base "is_within" 2 ["value", "least", "most"] [] (spWithin K)) (C_is_sound : Cal P w K mg base "is_sound" 1 ["value"] [] (spSound K)) : FnOk P w K mg base CX0 3 f fd ["value"] (spArrow K) := by
  refine F.ok sc_is_arrow (fun vs H Q E h => ?_) (fun cdv A outer s H vs Q E hr h => ?_)
  · obtain ⟨F0, v, d, p, x, r, rfl, fs, hd, hq, hx, q⟩ := h
    rfl
  · obtain ⟨F0, v, d, p, x, r, rfl, fs, hd, hq, hx, q⟩ := h
    have hu64 := hr.units
    refine ⟨_, (pss_cons (ps_if (PW.pt (pw_or (pt_not (pt_val (pe_cal C_is_listed (hr.mono (by decide)) (pa_cons (pv 0) pa_nil)))) (pw_or (pt_cmpR op_ne (pe_callB (cr_len K) (by rfl) T.len bt_len (pa_cons (pv 0) pa_nil)) (zc T.c_ARROW) (nomark _)) (pw_or1 (pt_not (pt_val (pe_cal C_is_sound (hr.mono (by decide)) (pa_cons (pe_ix (ix_LT K) (pv 0) pe_int (fun _ _ => rfl)) pa_nil))))))))
        (pss_one (ps_ret pe_bl))
        pss_nil)
      (pss_one (ps_ret (pe_and (pe_cal C_is_within (hr.mono (by decide)) (pa_cons (pe_ix (ix_LT K) (pv 0) pe_int (fun _ _ => rfl)) (pa_cons pe_int (pa_cons (zc T.c_MOST_PLACE) pa_nil)))) (pe_one (pe_cal C_is_within (hr.mono (by decide)) (pa_cons (pe_ix (ix_LT K) (pv 0) pe_int (fun _ _ => rfl)) (pa_cons pe_int (pa_cons (zc T.c_MOST_PLACE) pa_nil))))))))), ?_⟩
    have hl : isListed d = true := by rcases hq with rfl | rfl <;> rfl
    refine ⟨v, rfl, F0, v, d, rfl, fs, hd, fun F1 H1 g1 => ⟨_, rfl, ?_⟩⟩
    rw [hl]
    refine iteF ⟨v, rfl, len_dp (hd.ex g1.ff) hq g1.fh ⟨rfl, _, rfl, ?_⟩⟩
    refine iteF ⟨v, rfl, ix_dp (hd.ex g1.ff) hq g1.fh (e := .str x) rfl fun r1 hr1 => ?_⟩
    refine ⟨F1, r1, .str x, rfl, g1.fh, hr1, hx, fun F2 H2 g2 => ⟨_, rfl, ?_⟩⟩
    have g3 := g1.trans g2
    refine ite2 (fun e => ?_) (fun e => ?_)
    · have e : isSound (.str x) = false := by simpa using e
      have z := q F2 H2 g3
      rw [e, Bool.false_and] at z
      exact z
    · have e : isSound (.str x) = true := by simpa using e
      refine ⟨v, rfl, ix_dp (hd.ex g3.ff) hq g3.fh (e := .int p) rfl fun r2 hr2 => ?_⟩
      refine ⟨F2, r2, .int p, 0, 399, rfl, g2.fh, hr2, fun F4 H4 g4 => ⟨_, rfl, ?_⟩⟩
      have g5 := g3.trans g4
      refine ite2 (fun e2 => ?_) (fun e2 => ?_)
      · refine ⟨v, rfl, ix_dp (hd.ex g5.ff) hq g5.fh (e := .int r) rfl fun r3 hr3 => ?_⟩
        refine ⟨F4, r3, .int r, 0, 399, rfl, g4.fh, hr3, fun F6 H6 g6 => ?_⟩
        have z := q F6 H6 (g5.trans g6)
        rw [e, e2, Bool.true_and, Bool.true_and] at z
        exact z
      · have z := q F4 H4 g5
        rw [e, Bool.eq_false_iff.mpr e2, Bool.true_and, Bool.false_and] at z
        exact z
end
end TW
set_option Elab.async false
set_option linter.all false
set_option maxRecDepth 100000
set_option maxHeartbeats 8000000
/-! Speech -/
namespace TW
open PySem PySem.Spec PyProof.Rows L2 RZ StX
open Evl (Ex)
abbrev Arr := Int × Str × Int
def encA (a : Arr) : PyData := .tuple [.int a.1, .str a.2.1, .int a.2.2]
theorem encA_eqv (a b : Arr) : PyData.eqv (encA a) (encA b) = decide (a = b) := by
  obtain ⟨p, x, r⟩ := a
  obtain ⟨p', x', r'⟩ := b
  simp only [encA, PyData.eqv, PyData.eqvAll, Bool.and_true]
  by_cases h1 : p = p' <;> by_cases h2 : x = x' <;> by_cases h3 : r = r' <;> simp [h1, h2, h3]
theorem encA_shaped (a : Arr) (h : PyData.strOk a.2.1 = true) : SeqAt.shaped (encA a) = true := by
  simp [h, encA, SeqAt.shaped, PyData.canLay0, PyData.canLayAll0, PyData.depth, PyData.depthAll]
theorem encA_alike (a b : Arr) : PySem.W.alike (encA a) (encA b) = true := by simp [encA, PySem.W.alike, PySem.W.alikeAll]
theorem encA_depth (a : Arr) : (encA a).depth ≤ 8 := by simp [encA, PyData.depth, PyData.depthAll]
/-- neighbours in a list without repeats differ -/
theorem neigh : ∀ {l : List Arr}, l.Nodup → ∀ b ∈ l.zip (l.drop 1), ¬ b.1 = b.2
  | [], _, b, h => absurd h (by simp)
  | [_], _, b, h => absurd h (by simp)
  | x :: y :: r, nd, b, h => by
    obtain ⟨h1, h2⟩ := List.nodup_cons.mp nd
    rcases List.mem_cons.mp (show b ∈ (x, y) :: (y :: r).zip r from h) with rfl | h
    · exact fun e => h1 (by show x ∈ y :: r; rw [show x = y from e]; exact List.mem_cons_self)
    · exact neigh h2 b h
/-- a Speech: its arrows, starts, places, sounds -/
structure SpD where
  A : List Arr
  S : List Int
  P : List Int
  Z : List Str
structure SpD.Ok (s : SpD) : Prop where
  asc : s.P.Pairwise (· < ·)
  pl : ∀ k, k ∈ s.P ↔ k ∈ s.S ∨ (∃ a ∈ s.A, a.1 = k) ∨ ∃ a ∈ s.A, a.2.2 = k
  so : ∀ z, z ∈ s.Z ↔ ∃ a ∈ s.A, a.2.1 = z
  nd : s.Z.Nodup
def spF (va vs vp vz vd : V) : List (Str × V) := putF "own_from" vd (putF "sounds" vz (putF "places" vp (putF "starts" vs (putF "arrows" va []))))
/-- at x stands the Speech s -/
structure SpAt (K : PySem.W.Frag) (C : Addr) (F : Hp) (x : Addr) (s : SpD) : Prop where
  ex : ∃ dx va vs vp vz vd, F x = some (.ins C dx (spF va vs vp vz vd)) ∧ Dp K F va (.tuple (s.A.map encA)) ∧ Dp K F vs (.tuple (s.S.map .int)) ∧ Dp K F vp (.tuple (s.P.map .int)) ∧ Dp K F vz (.tuple (s.Z.map .str))
  ok : s.Ok
structure SpC (K : PySem.W.Frag) (C : Addr) : Prop where
  cl : Cls K C
  nA : NoAttr K C "arrows"
  nS : NoAttr K C "starts"
  nP : NoAttr K C "places"
  nZ : NoAttr K C "sounds"
  nO : NoAttr K C "own_from"
theorem SpAt.ex' {K : PySem.W.Frag} {C : Addr} {F F' : Hp} {x : Addr} {s : SpD} (h : SpAt K C F x s) (e : Ex F F') : SpAt K C F' x s := by
  obtain ⟨⟨dx, va, vs, vp, vz, vd, h1, h2, h3, h4, h5⟩, ok⟩ := h
  exact ⟨⟨dx, va, vs, vp, vz, vd, e _ _ h1, h2.ex e, h3.ex e, h4.ex e, h5.ex e⟩, ok⟩
def okArr (a : Arr) : Bool := isSound (.str a.2.1) && (isWithin 0 399 (.int a.1) && isWithin 0 399 (.int a.2.2))
/-- Speech(arrows, starts), all in order -/
def spSpI (K : PySem.W.Frag) (C : Addr) : Sp := fun vs H Q _ => ∃ (F : Hp) (x dx : Addr) (va vst : V) (da ds : PyData) (A : List Arr) (S : List Int), vs = [.ref x, va, vst] ∧ H x = some (.ins C dx []) ∧ F x = none ∧ Sees F H ∧ Dp K F va da ∧ isSeq da (A.map encA) ∧ Dp K F vst ds ∧ isSeq ds (S.map .int) ∧
  A.length ≤ 2000 ∧ S.length ≤ 80 ∧ A.all okArr = true ∧ (∀ a ∈ A, a.2.1.length ≤ 1000 ∧ PyData.strOk a.2.1 = true) ∧ A.Nodup ∧ isLot ds = true ∧ S ≠ [] ∧
  ∀ (s : SpD) (F' H' : Hp), s.A.Perm A → s.S = S → Gr [x] F H F' H' → F' x = none → SpAt K C (upd F' x ((H' x).getD (.own 0))) x s → Q .non H'
section
variable {P : Program} {w : World} {K : PySem.W.Frag} {mg : Str → Option Value} {base : Heap}
theorem ok_Speech_init {f C : Addr} {fd : FuncData} (F : Fun K "__init__" "Speech.__init__" s_Speech___init__ f fd) (T : Txt mg) (TS : SpC K C) (C_is_listed : Cal P w K mg base "is_listed" 1 ["value"] [] (spListed K)) (C_is_arrow : Cal P w K mg base "is_arrow" 3 ["value"] [] (spArrow K)) (C_is_lot : Cal P w K mg base "is_lot" 3 ["value"] [] (spLot K)) :
    FnOk P w K mg base CX0 4 f fd ["self", "arrows", "starts"] (spSpI K C) := by
  refine F.ok sc_Speech___init__ (fun vs H Q E h => ?_) (fun cdv A outer s H vs Q E hr h => ?_)
  · obtain ⟨F0, x, dx, va, vst, da, ds, A, S, rfl, _⟩ := h
    rfl
  · obtain ⟨F0, x, dx, va, vst, da, ds, AA, S, rfl, hx, fx, fs, ha, hqa, hst, hqs, zA, zS, okA, zN, ndA, lotS, neS, q⟩ := h
    have hu := hu_of hr
    have hu64 := hr.units
    have hu16 := hu16_of hr
    have hu8 := hu8_of hr
    refine ⟨_, (pss_cons (ps_if (PW.pt (pw_or (pt_not (pt_val (pe_cal C_is_listed (hr.mono (by decide)) (pa_cons (pv 1) pa_nil)))) (pw_or (pt_cmpR op_gt (pe_callB (cr_len K) (by rfl) T.len bt_len (pa_cons (pv 1) pa_nil)) (zc T.c_MOST_ARROWS) (nomark _)) (pw_or1 (pt_not (pt_val (pe_callB (cr_allD K) (by rfl) T.all bt_all (pa_cons (pe_lc (own := [("arrow", 3)]) rfl sc_Speech___init__.nd (zseq K (pv 1)) (blkOk_by (N := sc_Speech___init__N) (sc := defScope s_Speech___init__) (by decide +kernel)) (fun _ _ _ _ _ => (zg (i := 3) sc_Speech___init__.nd)) (fun _ _ _ _ _ => pts_nil) (fun _ _ _ _ _ => (pe_cal C_is_arrow (hr.mono (by decide)) (pa_cons (pv 3) pa_nil)))) pa_nil))))))))
        (pss_one ps_never)
        pss_nil)
      (pss_cons (zs (i := 4) sc_Speech___init__.nd (pe_callB (cr_sortedD K hu16) (by rfl) T.sorted bt_sorted (pa_cons (pe_lc (own := [("arrow", 3)]) rfl sc_Speech___init__.nd (zseq K (pv 1)) (blkOk_by (N := sc_Speech___init__N) (sc := defScope s_Speech___init__) (by decide +kernel)) (fun _ _ _ _ _ => (zg (i := 3) sc_Speech___init__.nd)) (fun _ _ _ _ _ => pts_nil) (fun _ _ _ _ _ => (pe_callTy (cr_tuple K) (by rfl) T.tuple bt_tuple (pa_cons (pv 3) pa_nil)))) pa_nil)))
      (pss_cons (ps_if (pt_val (pe_callB (cr_anyD K) (by rfl) T.any bt_any (pa_cons (pe_lc (own := [("one", 5), ("other", 6)]) rfl sc_Speech___init__.nd (pi_zipD K T.zip (pa_cons (pv 4) (pa_cons (pe_slice (sl_LA K) (pv 4) (po_some pe_int) po_none) pa_nil))) (blkOk_by (N := sc_Speech___init__N) (sc := defScope s_Speech___init__) (by decide +kernel)) (fun _ _ _ _ _ => (zpg (n := 2) K (pgs_cons (zg (i := 5) sc_Speech___init__.nd) (pgs_cons (zg (i := 6) sc_Speech___init__.nd) pgs_nil)))) (fun _ _ _ _ _ => pts_nil) (fun _ _ _ _ _ => (pe_cmpR (op_eqDD K hu64) (pv 5) (pv 6) (nomark _)))) pa_nil)))
        (pss_one ps_never)
        pss_nil)
      (pss_cons (ps_if (PW.pt (pw_or (pt_not (pt_val (pe_cal C_is_lot (hr.mono (by decide)) (pa_cons (pv 2) pa_nil)))) (pw_or1 (pt_cmpR op_eq (pe_callB (cr_len K) (by rfl) T.len bt_len (pa_cons (pv 2) pa_nil)) pe_int (nomark _)))))
        (pss_one ps_never)
        pss_nil)
      (pss_cons (ps_fld (pv 0) (pe_callTy (cr_tuple K) (by rfl) T.tuple bt_tuple (pa_cons (pv 4) pa_nil)) rfl)
      (pss_cons (ps_fld (pv 0) (pe_callTy (cr_tuple K) (by rfl) T.tuple bt_tuple (pa_cons (pv 2) pa_nil)) rfl)
      (pss_cons (zs (i := 7) sc_Speech___init__.nd (pe_lst (zstar K (pv 2) (zstar K (pe_lc (own := [("arrow", 3)]) rfl sc_Speech___init__.nd (zseq K (pv 4)) (blkOk_by (N := sc_Speech___init__N) (sc := defScope s_Speech___init__) (by decide +kernel)) (fun _ _ _ _ _ => (zg (i := 3) sc_Speech___init__.nd)) (fun _ _ _ _ _ => pts_nil) (fun _ _ _ _ _ => (pe_ix (ix_LT K) (pv 3) pe_int (fun _ _ => rfl)))) (zstar K (pe_lc (own := [("arrow", 3)]) rfl sc_Speech___init__.nd (zseq K (pv 4)) (blkOk_by (N := sc_Speech___init__N) (sc := defScope s_Speech___init__) (by decide +kernel)) (fun _ _ _ _ _ => (zg (i := 3) sc_Speech___init__.nd)) (fun _ _ _ _ _ => pts_nil) (fun _ _ _ _ _ => (pe_ix (ix_LT K) (pv 3) pe_int (fun _ _ => rfl)))) pa_nil)))))
      (pss_cons (ps_fld (pv 0) (pe_callTy (cr_tuple K) (by rfl) T.tuple bt_tuple (pa_cons (pe_callB (cr_sortedKI w hu8) (by rfl) T.sorted bt_sorted (pa_cons (pe_callTy (cr_setK K w) (by rfl) T.set bt_set (pa_cons (pv 7) pa_nil)) pa_nil)) pa_nil)) rfl)
      (pss_cons (ps_fld (pv 0) (pe_callTy (cr_tuple K) (by rfl) T.tuple bt_tuple (pa_cons (pe_callB (cr_sortedKS w hu8) (by rfl) T.sorted bt_sorted (pa_cons (pe_callTy (cr_setK K w) (by rfl) T.set bt_set (pa_cons (pe_lc (own := [("arrow", 3)]) rfl sc_Speech___init__.nd (zseq K (pv 4)) (blkOk_by (N := sc_Speech___init__N) (sc := defScope s_Speech___init__) (by decide +kernel)) (fun _ _ _ _ _ => (zg (i := 3) sc_Speech___init__.nd)) (fun _ _ _ _ _ => pts_nil) (fun _ _ _ _ _ => (pe_ix (ix_LT K) (pv 3) pe_int (fun _ _ => rfl)))) pa_nil)) pa_nil)) pa_nil)) rfl)
      (pss_cons (ps_fld (pv 0) pe_dnewK rfl)
      (pss_one (ps_for PassesOwn.never rfl (pi_enum rfl T.enumerate (pa_cons (pv 4) pa_nil)) (zpg (n := 2) K (pgs_cons (zg (i := 8) sc_Speech___init__.nd) (pgs_cons (zg (i := 3) sc_Speech___init__.nd) pgs_nil)))
        (pss_one (ps_dput hu (zfld K (pv 0)) (pe_ix (ix_LT K) (pv 3) pe_int (fun _ _ => rfl)) (pe_tup (zstar K (pe_dget2 hu (zfld K (pv 0)) (pe_ix (ix_LT K) (pv 3) pe_int (fun _ _ => rfl)) (pe_tup pa_nil) (m2_of rfl)) (pa_cons (pv 8) pa_nil))) rfl)))))))))))))), ?_⟩
    -- the arrows are in order
    have hl : isListed da = true := by rcases hqa with rfl | rfl <;> rfl
    refine ⟨va, rfl, F0, va, da, rfl, fs, ha, fun F1 H1 g1 => ⟨_, rfl, ?_⟩⟩
    rw [hl]
    refine iteF ⟨va, rfl, len_dp (ha.ex g1.ff) hqa g1.fh ⟨_, _, rfl, rfl, _, rfl, ?_⟩⟩
    refine iteNo (by rw [decide_eq_true_eq, List.length_map]; omega) ⟨va, rfl, seq_walk (ha.ex g1.ff) hqa g1.fh fun J xs G w1 hG hxs hlen D hD => ?_⟩
    refine lc_seqB (bs := AA) (enc := encA) (f := okArr) w1 hxs g1.fh hG (by omega) (fun b y F' H' hb g2 hy => turn1 rfl fun Yes h => ⟨_, rfl, F', y, _, b.1, b.2.1, b.2.2, rfl, g2.fh, hy, .inr rfl, (zN b hb).1, fun F3 H3 g3 => h _ _ _ g3 rfl⟩) hD fun F2 H2 g2 fD hDc => ?_
    refine all_new hDc ⟨_, rfl, ?_⟩
    rw [List.all_map, show AA.all (id ∘ okArr) = true from okA]
    refine iteF ?_
    have gA := g1.trans g2
    clear hG w1 hxs hlen g1 g2 hDc fD
    -- found
    refine ⟨va, rfl, seq_walk (ha.ex gA.ff) hqa gA.fh fun J xs G w1 hG hxs hlen D2 hD2 => ?_⟩
    refine lc_seqM (bs := AA) (enc := encA) (f := encA) w1 hxs gA.fh hG (by omega) (fun b y F' H' hb g2 hy => turn1 rfl fun Yes h => ⟨_, rfl, tuple_dp hy (.inr rfl) g2.fh fun r F3 H3 g3 hr => h _ _ _ g3 hr⟩) hD2 fun acc F3 H3 g3 fD3 hDc hacc => ?_
    refine ⟨Arr, encA, AA, D2, acc, F3, rfl, g3.fh, .inl (.inl hDc), hacc, PySem.W.AllAlike.of encA_alike, PySem.W.Sortable.tuples fun b => ⟨_, _, rfl⟩, fun b _ => encA_depth b, fun ys p hys hp => ?_⟩
    have pmA : (AA.mergeSort (PySem.W.dataLe false encA)).Perm AA := List.mergeSort_perm _ _
    generalize AA.mergeSort (PySem.W.dataLe false encA) = A' at hys pmA
    have gB : Gr [] F0 H (upd F3 p (.lst ys)) (upd H3 p (.lst ys)) := (gA.trans g3).new hp
    have hf : Dp K (upd F3 p (.lst ys)) (.ref p) (.list (A'.map encA)) := .lst (.inl (.inl upd_same)) (hys.ex (Ex.new (g3.fh.dm hp)))
    have lA : A'.length ≤ 2000 := by rw [pmA.length_eq]; exact zA
    have nA : A'.Nodup := pmA.nodup_iff.mpr ndA
    generalize upd F3 p (.lst ys) = F4 at gB hf
    generalize upd H3 p (.lst ys) = H4 at gB
    clear hG w1 hxs hlen g3 hDc hacc hys gA hp
    -- none twice
    refine ⟨_, rfl, _, rfl, 1, rfl, slQ_dp hf (.inl rfl) gB.fh fun r e F5 H5 g5 t he => ?_⟩
    refine zip_walk (hf.ex g5.ff) he t g5.fh fun J xs zs G w1 hG hxs hzs D3 hD3 => ?_
    have e1 : cutD (A'.map encA) (some 1) none = (A'.drop 1).map encA := by rw [show (1 : Int) = ((1 : Nat) : Int) from rfl, cutD_from, List.map_drop]
    rw [e1] at hzs
    have hn : (A'.zip (A'.drop 1)).length = min (A'.map encA).length (cutD (A'.map encA) (some 1) none).length := by rw [e1]; simp
    have w2 : Walk J (A'.zip (A'.drop 1)).length G (YPair (fun i => xs[i]?) (fun i => zs[i]?)) := by rw [hn]; exact w1
    refine lc_bools K (bs := A'.zip (A'.drop 1)) (f := fun b => decide (b.1 = b.2)) w2 g5.fh hG (by rw [List.length_zip]; omega) (fun i b y F' H' H'' hb g6 yy => yPair_dp hxs hzs hb g6 yy) (fun b y F' H' hb g6 im => ?_) hD3 fun F6 H6 g6 fD6 hDc => ?_
    · obtain ⟨T1, x1, y1, rfl, hT1, d1, d2⟩ := im
      have m1 : b.1 ∈ A' := (List.of_mem_zip hb).1
      have m2 : b.2 ∈ A' := List.mem_of_mem_drop (List.of_mem_zip hb).2
      refine turn2 (sees_t g6.fh (.inl (.inl hT1))) rfl fun Yes h => ⟨_, rfl, _, rfl, .mk ⟨_, _, Dp.sees g6.fh d1, Dp.sees g6.fh d2, encA_shaped _ (zN _ (pmA.mem_iff.mp m1)).2, encA_shaped _ (zN _ (pmA.mem_iff.mp m2)).2, ?_⟩⟩
      rw [encA_eqv]
      exact h _ _ _ (Gr.refl g6.fh) rfl
    · refine any_new hDc ⟨_, rfl, ?_⟩
      have no : ((A'.zip (A'.drop 1)).map fun b => decide (b.1 = b.2)).any id = false := by
        rw [List.any_map, List.any_eq_false]
        intro b hb
        simpa using neigh nA b hb
      rw [no]
      refine iteF ?_
      have gC := (gB.trans g5).trans g6
      have hf6 := hf.ex (g5.ff.trans g6.ff)
      clear hG w1 w2 hxs hzs hn e1 he t g5 g6 hDc fD6 gB hf no
      -- the starts are in order
      refine ⟨vst, rfl, F6, vst, ds, rfl, gC.fh, hst.ex gC.ff, by rcases hqs with rfl | rfl <;> (show (S.map PyData.int).length ≤ 5000; rw [List.length_map]; omega), fun F7 H7 g7 => ⟨_, rfl, ?_⟩⟩
      rw [lotS]
      have gD := gC.trans g7
      refine iteF ⟨vst, rfl, len_dp (hst.ex gD.ff) hqs gD.fh ⟨rfl, _, rfl, ?_⟩⟩
      refine iteNo (fun e => neS (by have z := V.int.inj (of_decide_eq_true e); rw [List.length_map] at z; exact List.length_eq_zero_iff.mp (by omega))) ?_
      -- self.arrows = tuple(found); self.starts = tuple(starts)
      refine ⟨_, rfl, tuple_dp (hf6.ex g7.ff) (.inl rfl) gD.fh fun ra F8 H8 g8 hra => ⟨_, rfl, x, C, dx, [], rfl, (gD.trans g8).at hx, TS.cl, TS.nA, by show 0 < 1000; decide, ?_⟩⟩
      have mx : x ∈ [x] := List.mem_singleton.mpr rfl
      have nx : H x ≠ none := by rw [hx]; exact fun z => nomatch z
      have t0 : Gr [x] F0 H F8 H8 := (gD.trans g8).mono (fun b hb => nomatch hb)
      have t1 : Gr [x] F0 H F8 (upd H8 x (.ins C dx (putF "arrows" ra []))) := t0.mut (t0.none' fx nx) (.inl mx)
      have c1 : upd H8 x (.ins C dx (putF "arrows" ra [])) x = some (.ins C dx (putF "arrows" ra [])) := upd_same
      generalize upd H8 x (.ins C dx (putF "arrows" ra [])) = H9 at t1 c1 ⊢
      refine ⟨_, rfl, tuple_dp (hst.ex t1.ff) hqs t1.fh fun rs F10 H10 g10 hrs => ⟨_, rfl, x, C, dx, _, rfl, g10.at c1, TS.cl, TS.nS, by show 1 < 1000; decide, ?_⟩⟩
      have t2 := (t1.trans g10).mut (o := .ins C dx (putF "starts" rs (putF "arrows" ra []))) ((t1.trans g10).none' fx nx) (.inl mx)
      have c2 : upd H10 x (.ins C dx (putF "starts" rs (putF "arrows" ra []))) x = some (.ins C dx (putF "starts" rs (putF "arrows" ra []))) := upd_same
      have hra2 := hra.ex g10.ff
      have hf2 := (hf6.ex g7.ff).ex (g8.ff.trans g10.ff)
      generalize upd H10 x (.ins C dx (putF "starts" rs (putF "arrows" ra []))) = H11 at t2 c2 ⊢
      clear gD g8 hra t0 t1 c1 g10 gC hf6 g7
      -- places
      obtain ⟨sa, xst, rfl, hsq, hsx⟩ := dp_seq (hst.ex t2.ff) hqs
      rw [dps_int] at hsx
      subst hsx
      refine ⟨_, rfl, sa, _, rfl, hsq.symm.imp (sees_t t2.fh) (sees_l t2.fh), ?_⟩
      refine ⟨_, rfl, seq_walk hf2 (.inl rfl) t2.fh fun J xs G w1 hG hxs hlen D3 hD3 => ?_⟩
      refine lc_seqM (bs := A') (enc := encA) (f := fun a => .int a.1) w1 hxs t2.fh hG (by omega) (fun b y F' H' hb g hy => turn1 rfl fun Yes h => ⟨_, rfl, ix_dp hy (.inr rfl) g.fh (e := .int b.1) rfl fun r hr => h _ _ _ (Gr.refl g.fh) hr⟩) hD3 fun acc F12 H12 g12 fD hDc hacc => ?_
      refine ⟨D3, _, rfl, .inr (.inl (.inl hDc)), ?_⟩
      refine ⟨_, rfl, seq_walk (hf2.ex g12.ff) (.inl rfl) g12.fh fun J xs G w1 hG hxs hlen D4 hD4 => ?_⟩
      refine lc_seqM (bs := A') (enc := encA) (f := fun a => .int a.2.2) w1 hxs g12.fh hG (by omega) (fun b y F' H' hb g hy => turn1 rfl fun Yes h => ⟨_, rfl, ix_dp hy (.inr rfl) g.fh (e := .int b.2.2) rfl fun r hr => h _ _ _ (Gr.refl g.fh) hr⟩) hD4 fun acc2 F13 H13 g13 fD4 hDc4 hacc2 => ?_
      rw [show (A'.map fun a : Arr => PyData.int a.1) = (A'.map fun a => a.1).map .int by rw [List.map_map]; rfl, dps_int] at hacc
      rw [show (A'.map fun a : Arr => PyData.int a.2.2) = (A'.map fun a => a.2.2).map .int by rw [List.map_map]; rfl, dps_int] at hacc2
      refine ⟨D4, _, rfl, .inr (.inl (.inl hDc4)), ?_⟩
      subst hacc hacc2
      have eL : S.map V.int ++ ((A'.map fun a => a.1).map V.int ++ ((A'.map fun a => a.2.2).map V.int ++ [])) = (S ++ (A'.map (fun a => a.1) ++ A'.map fun a => a.2.2)).map V.int := by simp
      have lL : (S ++ (A'.map (fun a => a.1) ++ A'.map fun a => a.2.2)).length ≤ 4085 := by simp; omega
      have mL : ∀ k, k ∈ S ++ (A'.map (fun a => a.1) ++ A'.map fun a => a.2.2) ↔ k ∈ S ∨ (∃ a ∈ A', a.1 = k) ∨ ∃ a ∈ A', a.2.2 = k := fun k => by simp
      dsimp only [tNil]
      rw [eL]
      generalize S ++ (A'.map (fun a => a.1) ++ A'.map fun a => a.2.2) = L at lL mL
      refine ⟨by rw [List.length_map, sizeLine_eq]; omega, fun pL hpL => ?_⟩
      have g14 : Gr [] F10 H11 F13 (upd H13 pL (.lst (L.map V.int))) := (g12.trans g13).newM hpL
      have hL : upd H13 pL (.lst (L.map V.int)) pL = some (.lst (L.map V.int)) := upd_same
      generalize upd H13 pL (.lst (L.map V.int)) = H14 at g14 hL ⊢
      refine ⟨_, rfl, pL, L.map Sum.inl, rfl, .inl (by rw [keys_int]; exact .inl (.inl hL)), by rw [List.length_map]; omega, fun q1 n hq1 hn _ => ⟨q1, L, n, rfl, upd_same, fun ns p2 nasc nmem nlen hp2 => .mk ⟨p2, _, rfl, .inl ⟨.inl (.inl upd_same), fun l1 hl1 => ?_⟩⟩⟩⟩
      have g15 := ((g14.newM (o := SKO w q1 (L.map Sum.inl) n) hq1).newM (o := .lst (ns.map V.int)) hp2).new (o := .tup (ns.map V.int)) hl1
      have hP : Dp K (upd F13 l1 (.tup (ns.map V.int))) (.ref l1) (.tuple (ns.map .int)) := .tup (.inl (.inl upd_same)) (dps_int.mpr rfl)
      refine ⟨_, rfl, x, C, dx, _, rfl, g15.at c2, TS.cl, TS.nP, by show 2 < 1000; decide, ?_⟩
      have t3 := (t2.trans g15).mut (o := .ins C dx (putF "places" (.ref l1) (putF "starts" rs (putF "arrows" ra [])))) ((t2.trans g15).none' fx nx) (.inl mx)
      have hra3 := hra2.ex g15.ff
      have hrs3 := hrs.ex g15.ff
      have hf3 := hf2.ex g15.ff
      have c3 : upd (upd (upd (upd H14 q1 (SKO w q1 (L.map Sum.inl) n)) p2 (.lst (ns.map V.int))) l1 (.tup (ns.map V.int))) x (.ins C dx (putF "places" (.ref l1) (putF "starts" rs (putF "arrows" ra [])))) x = some (.ins C dx (putF "places" (.ref l1) (putF "starts" rs (putF "arrows" ra [])))) := upd_same
      generalize upd (upd (upd (upd H14 q1 (SKO w q1 (L.map Sum.inl) n)) p2 (.lst (ns.map V.int))) l1 (.tup (ns.map V.int))) x (.ins C dx (putF "places" (.ref l1) (putF "starts" rs (putF "arrows" ra [])))) = H16 at t3 c3 ⊢
      generalize upd F13 l1 (.tup (ns.map V.int)) = F16 at t3 hra3 hrs3 hf3 hP
      clear g15 g14 g12 g13 hG w1 hxs hlen hDc hDc4 hL hl1 hp2 hq1 hpL c2 t2 hra2 hrs hf2 hsq
      -- sounds
      refine ⟨_, rfl, seq_walk hf3 (.inl rfl) t3.fh fun J xs G w1 hG hxs hlen D5 hD5 => ?_⟩
      refine lc_seqM (bs := A') (enc := encA) (f := fun a => .str a.2.1) w1 hxs t3.fh hG (by omega) (fun b y F' H' hb g hy => turn1 rfl fun Yes h => ⟨_, rfl, ix_dp hy (.inr rfl) g.fh (e := .str b.2.1) rfl fun r hr => h _ _ _ (Gr.refl g.fh) hr⟩) hD5 fun acc F17 H17 g17 fD5 hDc5 hacc => ?_
      rw [show (A'.map fun a : Arr => PyData.str a.2.1) = (A'.map fun a => a.2.1).map .str by rw [List.map_map]; rfl, dps_str] at hacc
      subst hacc
      refine ⟨D5, (A'.map fun a => a.2.1).map Sum.inr, rfl, .inl (by rw [keys_str]; exact .inl (.inl hDc5)), by simp; omega, fun q2 n2 hq2 hn2 _ => ⟨q2, A'.map fun a => a.2.1, n2, rfl, upd_same, fun zs p3 zasc znd zmem zlen hp3 => .mk ⟨p3, _, rfl, .inl ⟨.inl (.inl upd_same), fun l2 hl2 => ?_⟩⟩⟩⟩
      have g18 := ((g17.newM (o := SKO w q2 ((A'.map fun a => a.2.1).map Sum.inr) n2) hq2).newM (o := .lst (zs.map V.str)) hp3).new (o := .tup (zs.map V.str)) hl2
      have hZ : Dp K (upd F17 l2 (.tup (zs.map V.str))) (.ref l2) (.tuple (zs.map .str)) := .tup (.inl (.inl upd_same)) (dps_str.mpr rfl)
      refine ⟨_, rfl, x, C, dx, _, rfl, g18.at c3, TS.cl, TS.nZ, by show 3 < 1000; decide, ?_⟩
      have t4 := (t3.trans g18).mut (o := .ins C dx (putF "sounds" (.ref l2) (putF "places" (.ref l1) (putF "starts" rs (putF "arrows" ra []))))) ((t3.trans g18).none' fx nx) (.inl mx)
      have hra4 := hra3.ex g18.ff
      have hrs4 := hrs3.ex g18.ff
      have hf4 := hf3.ex g18.ff
      have hP4 := hP.ex g18.ff
      -- own_from
      refine fun d hd => ⟨_, rfl, x, C, dx, _, rfl, by rw [upd_ne (ne_of_none upd_same hd)]; exact upd_same, TS.cl, TS.nO, by show 4 < 1000; decide, ?_⟩
      have t5 : Gr [x] F0 H _ _ := (t4.newM (o := .dK []) hd).mut (p := x) (o := .ins C dx (putF "own_from" (.ref d) (putF "sounds" (.ref l2) (putF "places" (.ref l1) (putF "starts" rs (putF "arrows" ra [])))))) (t4.none' fx nx) (.inl mx)
      have nxd : x ≠ d := ne_of_none upd_same hd
      have c5 : upd (upd (upd (upd (upd (upd H17 q2 (SKO w q2 ((A'.map fun a => a.2.1).map Sum.inr) n2)) p3 (.lst (zs.map V.str))) l2 (.tup (zs.map V.str))) x (.ins C dx (putF "sounds" (.ref l2) (putF "places" (.ref l1) (putF "starts" rs (putF "arrows" ra [])))))) d (.dK [])) x (.ins C dx (putF "own_from" (.ref d) (putF "sounds" (.ref l2) (putF "places" (.ref l1) (putF "starts" rs (putF "arrows" ra [])))))) x = some (.ins C dx (putF "own_from" (.ref d) (putF "sounds" (.ref l2) (putF "places" (.ref l1) (putF "starts" rs (putF "arrows" ra [])))))) := upd_same
      have d5 : upd (upd (upd (upd (upd (upd H17 q2 (SKO w q2 ((A'.map fun a => a.2.1).map Sum.inr) n2)) p3 (.lst (zs.map V.str))) l2 (.tup (zs.map V.str))) x (.ins C dx (putF "sounds" (.ref l2) (putF "places" (.ref l1) (putF "starts" rs (putF "arrows" ra [])))))) d (.dK [])) x (.ins C dx (putF "own_from" (.ref d) (putF "sounds" (.ref l2) (putF "places" (.ref l1) (putF "starts" rs (putF "arrows" ra [])))))) d = some (.dK []) := by rw [upd_ne nxd.symm, upd_same]
      have fd5 : upd F17 l2 (.tup (zs.map V.str)) d = none := t4.fh.dm hd
      have nd0 : H d = none := t4.dm _ hd
      generalize upd (upd (upd (upd (upd (upd H17 q2 (SKO w q2 ((A'.map fun a => a.2.1).map Sum.inr) n2)) p3 (.lst (zs.map V.str))) l2 (.tup (zs.map V.str))) x (.ins C dx (putF "sounds" (.ref l2) (putF "places" (.ref l1) (putF "starts" rs (putF "arrows" ra [])))))) d (.dK [])) x (.ins C dx (putF "own_from" (.ref d) (putF "sounds" (.ref l2) (putF "places" (.ref l1) (putF "starts" rs (putF "arrows" ra [])))))) = H19 at t5 c5 d5 ⊢
      have c5 : H19 x = some (.ins C dx (spF ra rs (.ref l1) (.ref l2) (.ref d))) := c5
      generalize upd F17 l2 (.tup (zs.map V.str)) = F19 at t5 hra4 hrs4 hf4 hP4 hZ fd5
      clear t4 g18 g17 t3 hra3 hrs3 hf3 hP hD5 hDc5 hl2 hp3 hq2 hd c3 hG w1 hxs hlen
      obtain ⟨pf, xf, ep, hsf, hxf⟩ := dp_list hf4
      cases ep
      refine ⟨_, rfl, p, xf, rfl, sees_l t5.fh hsf, for_it walk_enum (fun i σ' H' => ∃ (o3 o8 : Option V) (F' : Hp) (kvs : List (Key × V)), σ' = [some (.ref x), some va, some (.ref sa), o3, some (.ref p), none, none, some (.ref pL), o8] ∧ Gr [d] F19 H19 F' H' ∧ H' d = some (.dK kvs) ∧ F' d = none ∧
        kvs.length ≤ i ∧ ∀ k v, valV kvs k = some v → ∃ es, Dp K F' v (.tuple es) ∧ es.length ≤ i) ⟨none, none, F19, [], rfl, Gr.refl t5.fh, d5, fd5, Nat.le_refl _, fun k v e => nomatch e⟩ (fun i σ' H' _ ⟨_, _, F', _, _, g, _⟩ => sees_l g.fh (Evl.ex_l g.ff hsf)) ?_ ?_⟩
      · rintro i y σ' H' H'' hi ⟨o3, o8, F', kvs, rfl, g, hd', fd', hk, hv⟩ ⟨T1, x1, y1, rfl, hT1, rfl, h1, h2⟩
        cases h1
        have h2 : xf[i]? = some y1 := h2
        obtain ⟨dd, k1, k2⟩ := hxf.get h2
        rw [List.getElem?_map] at k1
        obtain ⟨a1, ka, rfl⟩ := Option.map_eq_some_iff.mp k1
        have hi' : i < 2000 := by rw [hxf.length, List.length_map] at hi; omega
        have ga := g.new (o := .tup [.int (i : Nat), y1]) hT1
        have hda : upd H' T1 (.tup [.int (i : Nat), y1]) d = some (.dK kvs) := by rw [upd_ne (ne_of_none hd' hT1)]; exact hd'
        have fda : upd F' T1 (.tup [.int (i : Nat), y1]) d = none := by rw [upd_ne (ne_of_none hd' hT1)]; exact fd'
        have hva : ∀ k v, valV kvs k = some v → ∃ es, Dp K (upd F' T1 (.tup [.int (i : Nat), y1])) v (.tuple es) ∧ es.length ≤ i := fun k v e => by
          obtain ⟨es, z1, z2⟩ := hv k v e
          exact ⟨es, z1.ex (Ex.new (g.fh.dm hT1)), z2⟩
        have hya := k2.ex ga.ff
        have hTa : SqT K (upd H' T1 (.tup [.int (i : Nat), y1])) T1 [.int (i : Nat), y1] := .inl (.inl upd_same)
        generalize upd H' T1 (.tup [.int (i : Nat), y1]) = Ha at ga hda hTa ⊢
        generalize upd F' T1 (.tup [.int (i : Nat), y1]) = Fa at ga fda hva hya
        have hxa : Ha x = some (.ins C dx (spF ra rs (.ref l1) (.ref l2) (.ref d))) := ga.hh x _ (fun z => nxd (List.mem_singleton.mp z)) c5
        refine ⟨T1, _, rfl, hTa, rfl, _, _, rfl, _, _, rfl, rfl, ?_⟩
        have lk : (spF ra rs (.ref l1) (.ref l2) (.ref d)).lookup ("own_from" : Str) = some (.ref d) := by unfold spF; rw [lookup_putF, if_pos rfl]
        refine ⟨_, rfl, x, C, dx, _, _, rfl, hxa, TS.cl, TS.nO, lk, d, rfl, .inl ⟨kvs, .inl hda⟩, ?_⟩
        refine ⟨_, rfl, ix_dp hya (.inr rfl) ga.fh (e := .int a1.1) rfl fun r hr => ?_⟩
        rw [dp_int] at hr
        subst hr
        refine ⟨by decide, fun t0 ht0 => ⟨_, DGet.k (k := Sum.inl a1.1) (by rw [upd_ne (ne_of_none hda ht0)]; exact hda), ?_⟩⟩
        have gb := ga.new (o := .tup []) ht0
        have hdb : upd Ha t0 (.tup []) d = some (.dK kvs) := by rw [upd_ne (ne_of_none hda ht0)]; exact hda
        have fdb : upd Fa t0 (.tup []) d = none := by rw [upd_ne (ne_of_none hda ht0)]; exact fda
        have hxb : upd Ha t0 (.tup []) x = some (.ins C dx (spF ra rs (.ref l1) (.ref l2) (.ref d))) := by rw [upd_ne (ne_of_none hxa ht0)]; exact hxa
        have hvb : ∀ k v, valV kvs k = some v → ∃ es, Dp K (upd Fa t0 (.tup [])) v (.tuple es) ∧ es.length ≤ i := fun k v e => by
          obtain ⟨es, z1, z2⟩ := hva k v e
          exact ⟨es, z1.ex (Ex.new (ga.fh.dm ht0)), z2⟩
        have hyb := hya.ex (Ex.new (o := .tup []) (ga.fh.dm ht0))
        have ho : ∃ es, Dp K (upd Fa t0 (.tup [])) ((valV kvs (Sum.inl a1.1)).getD (.ref t0)) (.tuple es) ∧ es.length ≤ i := by
          cases e : valV kvs (Sum.inl a1.1) with
          | some v => exact hvb _ v e
          | none => exact ⟨[], .tup (.inl (.inl upd_same)) .nil, Nat.zero_le _⟩
        generalize (valV kvs (Sum.inl a1.1)).getD (.ref t0) = vo at ho
        generalize upd Ha t0 (.tup []) = Hb at gb hdb hxb ⊢
        generalize upd Fa t0 (.tup []) = Fb at gb fdb hvb hyb ho
        obtain ⟨es, ho1, ho2⟩ := ho
        obtain ⟨po, xo, rfl, hso, hxo⟩ := dp_tup ho1
        have lo : xo.length ≤ i := by rw [hxo.length]; exact ho2
        refine ⟨po, xo, rfl, .inl (sees_t gb.fh hso), _, rfl, ?_⟩
        refine ⟨by rw [sizeLine_eq]; simp; omega, fun t1 ht1 => ?_⟩
        have gc := gb.new (o := .tup (xo ++ [.int (i : Nat)])) ht1
        have hdc : upd Hb t1 (.tup (xo ++ [.int (i : Nat)])) d = some (.dK kvs) := by rw [upd_ne (ne_of_none hdb ht1)]; exact hdb
        have fdc : upd Fb t1 (.tup (xo ++ [.int (i : Nat)])) d = none := by rw [upd_ne (ne_of_none hdb ht1)]; exact fdb
        refine ⟨_, rfl, x, C, dx, _, _, rfl, by rw [upd_ne (ne_of_none hxb ht1)]; exact hxb, TS.cl, TS.nO, lk, ?_⟩
        refine ⟨_, rfl, ix_dp (hyb.ex (Ex.new (gb.fh.dm ht1))) (.inr rfl) gc.fh (e := .int a1.1) rfl fun r hr => ?_⟩
        rw [dp_int] at hr
        subst hr
        refine ⟨d, _, rfl, DPut.k (k := Sum.inl a1.1) hdc (by rw [sizeLine_eq]; omega), some y1, some (.int (i : Nat)), _, _, rfl, gc.mut fdc (.inl (List.mem_singleton.mpr rfl)), upd_same, fdc, ?_, fun k v e => ?_⟩
        · have := length_putK kvs (Sum.inl a1.1) (.ref t1)
          omega
        · rw [valV_put] at e
          split at e
          · cases e
            exact ⟨es ++ [.int (i : Nat)], .tup (.inl (.inl upd_same)) ((hxo.append (.cons (.int _) .nil)).ex (Ex.new (gb.fh.dm ht1))), by simp; omega⟩
          · obtain ⟨es', z1, z2⟩ := hvb k v e
            exact ⟨es', z1.ex (Ex.new (gb.fh.dm ht1)), by omega⟩
      · rintro σ' H' ⟨o3, o8, F', kvs, rfl, g, hd', fd', hk, hv⟩
        have hx' : H' x = some (.ins C dx (spF ra rs (.ref l1) (.ref l2) (.ref d))) := g.hh x _ (fun z => nxd (List.mem_singleton.mp z)) c5
        have tt := t5.trans g (fun b hb => .inr (by rw [List.mem_singleton.mp hb]; exact nd0))
        refine q ⟨A', S, ns, zs⟩ F' H' pmA rfl tt (tt.none' fx nx) ?_
        have fx' := tt.none' fx nx
        rw [hx']
        have e' : Ex F19 (upd F' x (.ins C dx (spF ra rs (.ref l1) (.ref l2) (.ref d)))) := g.ff.trans (Ex.new fx')
        exact ⟨⟨dx, ra, rs, .ref l1, .ref l2, .ref d, upd_same, hra4.ex e', hrs4.ex e', hP4.ex e', hZ.ex e'⟩, nasc, fun k => (nmem k).trans (mL k), fun z => by rw [zmem]; simp, znd⟩
end
end TW
set_option Elab.async false
set_option linter.all false
set_option maxRecDepth 100000
set_option maxHeartbeats 8000000
/-! Wall -/
namespace TW
open PySem PySem.Spec PyProof.Rows L2 RZ StX
open Evl (Ex)
theorem nodup_len {α : Type} [DecidableEq α] {l m : List α} (h1 : l.Nodup) (h2 : m.Nodup) (h : ∀ k, k ∈ l ↔ k ∈ m) : l.length = m.length := ((List.perm_ext_iff_of_nodup h1 h2).mpr h).length_eq
abbrev eS : Str → PyData := .str
theorem eS_alike (a b : Str) : PySem.W.alike (eS a) (eS b) = true := by simp [PySem.W.alike]
theorem eS_other (b : Str) : eS b ≠ .none ∧ ∀ xs, eS b ≠ .tuple xs := ⟨by simp, fun xs => by simp⟩
theorem eS_depth (a : Str) : (eS a).depth ≤ 8 := by simp [PyData.depth]
/-- marks told one by one, each once -/
def spMarks (K : PySem.W.Frag) : Sp := fun vs H Q _ => ∃ (F : Hp) (v : V) (d : PyData) (l : List Str), vs = [v] ∧ Sees F H ∧ Dp K F v d ∧ isSeq d (l.map .str) ∧ 1 ≤ l.length ∧ l.length ≤ 6 ∧ (∀ z ∈ l, z.length ≤ 1000 ∧ isHeard (.str z) = true) ∧ l.Nodup ∧ ∀ F' H', Gr [] F H F' H' → Q (.bl true) H'
structure WaD where
  ks : List Str
  m : Str → List Str
  all : List Str
structure WaD.Ok (s : WaD) : Prop where
  nd : s.ks.Nodup
  al : ∀ z, z ∈ s.all ↔ z ≠ "" ∧ ∃ k ∈ s.ks, z ∈ s.m k
  an : s.all.Nodup
def waF (vm vs va : V) : List (Str × V) := putF "all_marks" va (putF "sounds" vs (putF "own_marks" vm []))
/-- at a a dict that tells m (as lists | as tuples) at the keys ks -/
structure Tells (K : PySem.W.Frag) (F : Hp) (kvs : List (Key × V)) (ks : List Str) (m : Str → List Str) (enc : List PyData → PyData) : Prop where
  ke : kvs.map (·.1) = ks.map Sum.inr
  va : ∀ s ∈ ks, ∃ v, valV kvs (Sum.inr s) = some v ∧ Dp K F v (enc ((m s).map .str))
theorem Tells.ex {K : PySem.W.Frag} {F F' : Hp} {kvs : List (Key × V)} {ks : List Str} {m : Str → List Str} {enc : List PyData → PyData} (h : Tells K F kvs ks m enc) (e : Ex F F') : Tells K F' kvs ks m enc :=
  ⟨h.ke, fun s hs => by obtain ⟨v, h1, h2⟩ := h.va s hs; exact ⟨v, h1, h2.ex e⟩⟩
structure WaAt (K : PySem.W.Frag) (C : Addr) (F : Hp) (x : Addr) (s : WaD) : Prop where
  ex : ∃ dx D vs va kvs, F x = some (.ins C dx (waF (.ref D) vs va)) ∧ F D = some (.dK kvs) ∧ Tells K F kvs s.ks s.m .tuple ∧ Dp K F va (.tuple (s.all.map .str))
  ok : s.Ok
structure WaC (K : PySem.W.Frag) (C : Addr) : Prop where
  cl : Cls K C
  nM : NoAttr K C "own_marks"
  nS : NoAttr K C "sounds"
  nA : NoAttr K C "all_marks"
theorem WaAt.ex' {K : PySem.W.Frag} {C : Addr} {F F' : Hp} {x : Addr} {s : WaD} (h : WaAt K C F x s) (e : Ex F F') : WaAt K C F' x s := by
  obtain ⟨⟨dx, D, vs, va, kvs, h1, h2, h3, h4⟩, ok⟩ := h
  exact ⟨⟨dx, D, vs, va, kvs, e _ _ h1, e _ _ h2, h3.ex e, h4.ex e⟩, ok⟩
def spWaI (K : PySem.W.Frag) (C : Addr) : Sp := fun vs H Q _ => ∃ (F : Hp) (x dx a : Addr) (kvs : List (Key × V)) (ks : List Str) (m : Str → List Str), vs = [.ref x, .ref a] ∧ H x = some (.ins C dx []) ∧ F x = none ∧ Sees F H ∧ F a = some (.dK kvs) ∧ H a = some (.dK kvs) ∧ Tells K F kvs ks m .list ∧
  ks ≠ [] ∧ ks.length ≤ 100 ∧ ks.Nodup ∧ (∀ s ∈ ks, s.length ≤ 1000 ∧ isSound (.str s) = true) ∧ (∀ s ∈ ks, 1 ≤ (m s).length ∧ (m s).length ≤ 6 ∧ (∀ z ∈ m s, z.length ≤ 1000 ∧ isHeard (.str z) = true) ∧ (m s).Nodup) ∧
  ∀ (s : WaD) (F' H' : Hp), s.ks.Perm ks → (∀ k ∈ ks, (s.m k).Perm (m k)) → Gr [x] F H F' H' → F' x = none → WaAt K C (upd F' x ((H' x).getD (.own 0))) x s → Q .non H'
section
variable {P : Program} {w : World} {K : PySem.W.Frag} {mg : Str → Option Value} {base : Heap}
theorem ok_are_marks {f : Addr} {fd : FuncData} (F : Fun K "are_marks" "are_marks" s_are_marks f fd) (T : Txt mg) (C_is_listed : Cal P w K mg base "is_listed" 1 ["value"] [] (spListed K)) (C_is_heard : Cal P w K mg base "is_heard" 2 ["value"] [] (spHeard K)) :
    FnOk P w K mg base CX0 3 f fd ["value"] (spMarks K) := by
  refine F.ok sc_are_marks (fun vs H Q E h => ?_) (fun cdv A outer s H vs Q E hr h => ?_)
  · obtain ⟨F0, v, d, l, rfl, _⟩ := h
    rfl
  · obtain ⟨F0, v, d, l, rfl, fs, hd, hq, l1, l6, hz, nd, q⟩ := h
    refine ⟨_, (pss_cons (ps_if (PW.pt (pw_or (pt_not (pt_val (pe_cal C_is_listed (hr.mono (by decide)) (pa_cons (pv 0) pa_nil)))) (pw_or (pt_not (pt_chain op_le op_le pe_int (pe_callB (cr_len K) (by rfl) T.len bt_len (pa_cons (pv 0) pa_nil)) (zc T.c_MOST_MARKS) rfl)) (pw_or1 (pt_not (pt_val (pe_callB (cr_allD K) (by rfl) T.all bt_all (pa_cons (pe_lc (own := [("mark", 1)]) rfl sc_are_marks.nd (zseq K (pv 0)) (blkOk_by (N := sc_are_marksN) (sc := defScope s_are_marks) (by decide +kernel)) (fun _ _ _ _ _ => (zg (i := 1) sc_are_marks.nd)) (fun _ _ _ _ _ => pts_nil) (fun _ _ _ _ _ => (pe_cal C_is_heard (hr.mono (by decide)) (pa_cons (pv 1) pa_nil)))) pa_nil))))))))
        (pss_one (ps_ret pe_bl))
        pss_nil)
      (pss_one (ps_ret (pe_cmpR op_eq (pe_callB (cr_lenK w) (by rfl) T.len bt_len (pa_cons (pe_callTy (cr_setK K w) (by rfl) T.set bt_set (pa_cons (pv 0) pa_nil)) pa_nil)) (pe_callB (cr_len K) (by rfl) T.len bt_len (pa_cons (pv 0) pa_nil)) (nomark _))))), ?_⟩
    have hl : isListed d = true := by rcases hq with rfl | rfl <;> rfl
    refine ⟨v, rfl, F0, v, d, rfl, fs, hd, fun F1 H1 g1 => ⟨_, rfl, ?_⟩⟩
    rw [hl]
    refine iteF ⟨v, rfl, len_dp (hd.ex g1.ff) hq g1.fh ⟨_, _, rfl, rfl, _, rfl, ?_⟩⟩
    refine iteYes (decide_eq_true (by rw [List.length_map]; omega)) ⟨_, _, rfl, rfl, ?_⟩
    refine ⟨_, rfl, iteNo (by rw [List.length_map]; simp; omega) ?_⟩
    refine ⟨v, rfl, seq_walk (hd.ex g1.ff) hq g1.fh fun J xs G w1 hG hxs hlen D hD => ?_⟩
    refine lc_seqB (bs := l) (enc := .str) (f := fun z => isHeard (.str z)) w1 hxs g1.fh hG (by omega) (fun b y F' H' hb g2 hy => turn1 rfl fun Yes h => ⟨_, rfl, F', y, _, rfl, g2.fh, hy, (hz b hb).1, fun F3 H3 g3 => h _ _ _ g3 rfl⟩) hD fun F2 H2 g2 fD hDc => ?_
    refine all_new hDc ⟨_, rfl, ?_⟩
    rw [List.all_map, show l.all (id ∘ fun z => isHeard (.str z)) = true from List.all_eq_true.mpr fun z h => (hz z h).2]
    refine iteF ?_
    have gA := g1.trans g2
    obtain ⟨a, zs, rfl, hs, hzs⟩ := dp_seq (hd.ex gA.ff) hq
    rw [dps_str] at hzs
    subst hzs
    refine ⟨_, rfl, a, l.map Sum.inr, rfl, by rw [keys_str]; exact hs.imp (sees_l gA.fh) (sees_t gA.fh), by rw [List.length_map]; omega, fun q1 n hq1 hn hex => ⟨q1, l.map Sum.inr, n, rfl, upd_same, ?_⟩⟩
    have gB := gA.newM (o := SKO w q1 (l.map Sum.inr) n) hq1
    refine ⟨_, rfl, len_dp (hd.ex gB.ff) hq gB.fh ⟨rfl, ?_⟩⟩
    obtain ⟨l', n1, n2, n3⟩ := hex
    have e : n = l.length := by
      rw [← n2]
      have z := nodup_len n1 (m := l.map Sum.inr) (List.pairwise_map.mpr (nd.imp fun h e => h (Sum.inr.inj e))) n3
      rw [List.length_map] at z
      exact z
    have q0 := q _ _ gB
    rw [show decide (V.int n = V.int (l.map PyData.str).length) = true from decide_eq_true (by rw [e, List.length_map])]
    exact q0
/-- the keys as the walk gives them -/
theorem tells_at {F : Hp} {kvs : List (Key × V)} {ks : List Str} {m : Str → List Str} {enc : List PyData → PyData} (h : Tells K F kvs ks m enc) {i : Nat} {k : Key} {v : V} {s : Str} (e : kvs[i]? = some (k, v)) (es : ks[i]? = some s) : k = Sum.inr s := by
  have z := congrArg (·[i]?) h.ke
  simp only [List.getElem?_map, e, es, Option.map_some] at z
  exact Option.some.inj z
theorem tells_len {F : Hp} {kvs : List (Key × V)} {ks : List Str} {m : Str → List Str} {enc : List PyData → PyData} (h : Tells K F kvs ks m enc) : kvs.length = ks.length := by
  have z := congrArg List.length h.ke
  rw [List.length_map, List.length_map] at z
  exact z
theorem tells_keys {F : Hp} {kvs : List (Key × V)} {ks : List Str} {m : Str → List Str} {enc : List PyData → PyData} (h : Tells K F kvs ks m enc) : (kvs.map fun kv => kV kv.1) = ks.map V.str := by
  have z := congrArg (List.map kV) h.ke
  rw [List.map_map, keys_str] at z
  exact z
theorem alikeS (l : List Str) : PySem.W.AllAlike (l.map eS) := fun d hd e he => by
  obtain ⟨a, _, rfl⟩ := List.mem_map.mp hd
  obtain ⟨b, _, rfl⟩ := List.mem_map.mp he
  exact eS_alike a b
theorem sortableS (l : List Str) : PySem.W.Sortable (l.map eS) := .inr fun d hd => by
  obtain ⟨a, _, rfl⟩ := List.mem_map.mp hd
  exact eS_other a
theorem tells_put {F : Hp} {acc : List (Key × V)} {ks : List Str} {m : Str → List Str} {enc : List PyData → PyData} {i : Nat} {b : Str} {z : V} (h : Tells K F acc (ks.take i) m enc) (nd : ks.Nodup) (hb : ks[i]? = some b) (hz : Dp K F z (enc ((m b).map .str))) :
    Tells K F (putK acc (Sum.inr b) z) (ks.take (i + 1)) m enc := by
  have tk : ks.take (i + 1) = ks.take i ++ [b] := by rw [List.take_add_one, hb]; rfl
  have nb : b ∉ ks.take i := by
    have z := nd.sublist (List.take_sublist (i + 1) ks)
    rw [tk] at z
    exact fun h => (List.nodup_append.mp z).2.2 b h b (by simp) rfl
  have vn : valV acc (Sum.inr b) = none := by
    cases e : valV acc (Sum.inr b) with
    | none => rfl
    | some v =>
      have z := valV_in e
      rw [h.ke, List.mem_map] at z
      obtain ⟨y, y1, y2⟩ := z
      cases y2
      exact absurd y1 nb
  refine ⟨by rw [putK_new _ vn, List.map_append, h.ke, tk, List.map_append]; rfl, fun s hs => ?_⟩
  rw [valV_put]
  by_cases e : s = b
  · subst e
    exact ⟨z, by rw [if_pos rfl], hz⟩
  · rw [if_neg (fun z => e (Sum.inr.inj z))]
    refine h.va s ?_
    rw [tk, List.mem_append, List.mem_singleton] at hs
    exact hs.resolve_right e
theorem ok_Wall_init {f C : Addr} {fd : FuncData} (F : Fun K "__init__" "Wall.__init__" s_Wall___init__ f fd) (T : Txt mg) (TW_ : WaC K C) (C_is_sound : Cal P w K mg base "is_sound" 1 ["value"] [] (spSound K)) (C_are_marks : Cal P w K mg base "are_marks" 3 ["value"] [] (spMarks K)) :
    FnOk P w K mg base CX0 4 f fd ["self", "marks"] (spWaI K C) := by
  refine F.ok sc_Wall___init__ (fun vs H Q E h => ?_) (fun cdv A outer s H vs Q E hr h => ?_)
  · obtain ⟨F0, x, dx, a, kvs, ks, m, rfl, _⟩ := h
    rfl
  · obtain ⟨F0, x, dx, a, kvs, ks, m, rfl, hx, fx, fs, fa, ha, tl, ne, zk, ndk, okk, okm, q⟩ := h
    have hu := hu_of hr
    have hu16 := hu16_of hr
    have hu8 := hu8_of hr
    have lk := tells_len tl
    refine ⟨_, (pss_cons (ps_if (PW.pt (pw_or (pt_not (pt_val (pe_callB (cr_isi K) (by rfl) T.isinstance bt_isinstance (pa_cons (pv 1) (pa_cons (zty T.dict bt_dict) pa_nil))))) (pw_or (pt_cmpR op_eq (pe_callB call_lenD (by rfl) T.len bt_len (pa_cons (pv 1) pa_nil)) pe_int (nomark _)) (pw_or1 (pt_not (pt_val (pe_callB (cr_allD K) (by rfl) T.all bt_all (pa_cons (pe_lock (pe_lc (own := [("sound", 2)]) rfl sc_Wall___init__.nd (pi_keys (pv 1)) (blkOk_by (N := sc_Wall___init__N) (sc := defScope s_Wall___init__) (by decide +kernel)) (fun _ _ _ _ _ => (zg (i := 2) sc_Wall___init__.nd)) (fun _ _ _ _ _ => pts_nil) (fun _ _ _ _ _ => (pe_cal C_is_sound (hr.mono (by decide)) (pa_cons (pv 2) pa_nil))))) pa_nil))))))))
        (pss_one ps_never)
        pss_nil)
      (pss_cons (ps_if (pt_not (pt_val (pe_callB (cr_allD K) (by rfl) T.all bt_all (pa_cons (pe_lock (pe_lc (own := [("sound", 2)]) rfl sc_Wall___init__.nd (pi_keys (pv 1)) (blkOk_by (N := sc_Wall___init__N) (sc := defScope s_Wall___init__) (by decide +kernel)) (fun _ _ _ _ _ => (zg (i := 2) sc_Wall___init__.nd)) (fun _ _ _ _ _ => pts_nil) (fun _ _ _ _ _ => (pe_cal C_are_marks (hr.mono (by decide)) (pa_cons (pe_dget hu (pv 1) (pv 2) (fun _ _ => rfl)) pa_nil))))) pa_nil))))
        (pss_one ps_never)
        pss_nil)
      (pss_cons (ps_fld (pv 0) (pe_dc (own := [("sound", 2)]) rfl sc_Wall___init__.nd (zseq K (pe_callB (cr_sortedD K hu16) (by rfl) T.sorted bt_sorted (pa_cons (pe_callTy (call_listD rfl) (by rfl) T.list bt_list (pa_cons (pv 1) pa_nil)) pa_nil))) (blkOk_by (N := sc_Wall___init__N) (sc := defScope s_Wall___init__) (by decide +kernel)) (fun _ _ _ _ _ => (zg (i := 2) sc_Wall___init__.nd)) (fun _ _ _ _ _ => pts_nil) (fun _ _ _ _ _ => (pv 2)) (fun _ _ _ _ _ => (pe_callTy (cr_tuple K) (by rfl) T.tuple bt_tuple (pa_cons (pe_callB (cr_sortedD K hu16) (by rfl) T.sorted bt_sorted (pa_cons (pe_dget hu (pv 1) (pv 2) (fun _ _ => rfl)) pa_nil)) pa_nil)))) rfl)
      (pss_cons (ps_fld (pv 0) (pe_callTy cr_tupKD (by rfl) T.tuple bt_tuple (pa_cons (zfld K (pv 0)) pa_nil)) rfl)
      (pss_cons (ps_lock (ps_setLc2 (i := 3) (own := [("sound", 2), ("mark", 4)]) (vs1 := [4]) rfl sc_Wall___init__.nd rfl rfl (sw_true rfl rfl rfl (by decide +kernel)) (pi_keys (zfld K (pv 0))) (blkOk_by (N := sc_Wall___init__N) (sc := defScope s_Wall___init__) (by decide +kernel)) (by decide) (fun _ _ _ _ _ => (zg (i := 2) sc_Wall___init__.nd)) (fun _ _ _ _ _ => pts_nil) (fun _ _ _ _ _ => (zseq K (pe_dget hu (zfld K (pv 0)) (pv 2) (fun _ _ => rfl)))) (fun _ _ _ _ _ => (zg (i := 4) sc_Wall___init__.nd)) (fun _ _ _ _ _ => (pts_one (pt_cmpR op_ne (pv 4) pe_str (nomark _)))) (fun _ _ _ _ _ => (pv 4))))
      (pss_one (ps_fld (pv 0) (pe_callTy (cr_tuple K) (by rfl) T.tuple bt_tuple (pa_cons (pe_callB (cr_sortedKS w hu8) (by rfl) T.sorted bt_sorted (pa_cons (pe_callTy (cr_setK K w) (by rfl) T.set bt_set (pa_cons (pv 3) pa_nil)) pa_nil)) pa_nil)) rfl))))))), ?_⟩
    -- a dict, its keys sounds
    refine ⟨_, rfl, isi_dK ha (T := "dict") rfl ⟨_, rfl, iteF ?_⟩⟩
    refine ⟨_, rfl, a, kvs, rfl, ha, rfl, _, rfl, iteNo (fun e => ne (List.length_eq_zero_iff.mp (by have z := V.int.inj (of_decide_eq_true e); omega))) ?_⟩
    refine ⟨a, _, ha, True.intro, fun od => ⟨_, rfl, a, od, rfl, .inl ⟨kvs, upd_same, fun D hD => ?_⟩⟩⟩
    have na : upd H a (.frz od (.dK kvs)) a = some (.frz od (.dK kvs)) := upd_same
    refine lc_boolsG K (bs := ks) (f := fun z => isSound (.str z)) (Im := fun z x F => x = .str z) (by rw [← lk]; exact walk_keys) (sees_lock fs fa) (fun F' H' g => g.at na) (by omega) (fun i b x F' H' H'' hb g1 y => ?_)
      (fun b x F' H' hb g1 im => ?_) hD fun F1 H1 g1 fD hDc => ?_
    · obtain ⟨rfl, k, v, e1, rfl⟩ := y
      rw [tells_at tl e1 hb]
      exact ⟨F', Gr.refl g1.fh, rfl⟩
    · subst im
      exact turn1 rfl fun Yes h => ⟨_, rfl, F', _, .str b, rfl, g1.fh, .str b, (okk b hb).1, fun F3 H3 g3 => h _ _ _ g3 rfl⟩
    have nDa : D ≠ a := ne_of hDc (g1.at na) (fun z => nomatch z)
    refine ⟨g1.at na, all_new (by rw [upd_ne nDa]; exact hDc) ⟨_, rfl, ?_⟩⟩
    rw [List.all_map, show ks.all (id ∘ fun z => isSound (.str z)) = true from List.all_eq_true.mpr fun z h => (okk z h).2]
    refine iteF ?_
    have gA := Gr.unlock fa ha g1
    have ha1 : upd H1 a (.dK kvs) a = some (.dK kvs) := upd_same
    generalize upd H1 a (.dK kvs) = H2 at gA ha1 ⊢
    clear g1 hDc nDa na hD
    -- its values marks
    have fa1 := gA.ff _ _ fa
    have tl1 := tl.ex gA.ff
    refine ⟨a, _, ha1, True.intro, fun od => ⟨_, rfl, a, od, rfl, .inl ⟨kvs, upd_same, fun D hD => ?_⟩⟩⟩
    have na : upd H2 a (.frz od (.dK kvs)) a = some (.frz od (.dK kvs)) := upd_same
    refine lc_boolsG K (bs := ks) (f := fun _ => true) (Im := fun z x F => x = .str z) (by rw [← lk]; exact walk_keys) (sees_lock gA.fh fa1) (fun F' H' g => g.at na) (by omega) (fun i b x F' H' H'' hb g1 y => ?_)
      (fun b x F' H' hb g1 im => ?_) hD fun F3 H3 g3 fD hDc => ?_
    · obtain ⟨rfl, k, v, e1, rfl⟩ := y
      rw [tells_at tl e1 hb]
      exact ⟨F', Gr.refl g1.fh, rfl⟩
    · subst im
      obtain ⟨v, v1, v2⟩ := tl1.va b hb
      obtain ⟨m1, m2, m3, m4⟩ := okm b hb
      exact turn1 rfl fun Yes h => ⟨_, rfl, _, rfl, a, v, rfl, .inl ⟨kvs, Sum.inr b, .inr ⟨od, g1.at na⟩, rfl, v1.symm⟩, F', v, _, m b, rfl, g1.fh, v2.ex g1.ff, .inl rfl, m1, m2, m3, m4, fun F4 H4 g4 => h _ _ _ g4 rfl⟩
    have nDa : D ≠ a := ne_of hDc (g3.at na) (fun z => nomatch z)
    refine ⟨g3.at na, all_new (by rw [upd_ne nDa]; exact hDc) ⟨_, rfl, ?_⟩⟩
    rw [List.all_map, show ks.all (id ∘ fun _ => true) = true from List.all_eq_true.mpr fun z h => rfl]
    refine iteF ?_
    have gB := gA.trans (Gr.unlock fa1 ha1 g3)
    have ha2 : upd H3 a (.dK kvs) a = some (.dK kvs) := upd_same
    generalize upd H3 a (.dK kvs) = H4 at gB ha2 ⊢
    clear g3 hDc nDa na hD gA tl1 fa1 ha1
    -- own_marks
    have tl2 := tl.ex gB.ff
    refine ⟨_, rfl, a, kvs, rfl, .inl ha2, fun p1 hp1 => ?_⟩
    rw [tells_keys tl2]
    have g1 := gB.newM (o := .lst (ks.map V.str)) hp1
    refine ⟨Str, eS, ks, p1, ks.map V.str, F3, rfl, g1.fh, .inl (.inl upd_same), dps_str.mpr rfl, alikeS ks, sortableS ks, fun b _ => eS_depth b, fun ys p2 hy hp2 => ?_⟩
    generalize ek : ks.mergeSort (PySem.W.dataLe false eS) = ks2 at hy
    have pk : ks2.Perm ks := ek ▸ List.mergeSort_perm _ _
    have nd2 : ks2.Nodup := pk.nodup_iff.mpr ndk
    have hys := dps_str.mp hy
    subst hys
    have g2 := g1.newM (o := .lst (ks2.map V.str)) hp2
    have s2 : upd (upd H4 p1 (.lst (ks.map V.str))) p2 (.lst (ks2.map V.str)) p2 = some (.lst (ks2.map V.str)) := upd_same
    generalize upd (upd H4 p1 (.lst (ks.map V.str))) p2 (.lst (ks2.map V.str)) = H5 at g2 s2 ⊢
    clear g1 hp2 hp1 hy gB ha2
    refine .mk ⟨p2, _, rfl, .inl ⟨.inl (.inl s2), fun D hD => ?_⟩⟩
    refine dc_st (walk_list (K := K) (a := p2) (xs := ks2.map V.str)) g2.fh (fun i acc F' H' => Tells K F' acc (ks2.take i) (fun s => (m s).mergeSort (PySem.W.dataLe false eS)) .tuple) (fun _ _ _ _ _ h _ _ => h) (fun i acc F' H' _ gr _ => .inl (.inl (gr.at s2)))
      ⟨rfl, by simp⟩ (by rw [List.length_map, pk.length_eq]; omega) (fun i acc x' F' H' H'' hi hl gr fD hDc pv y => ?_) hD fun acc F' H' gr fD hDc pv => ?_
    · obtain ⟨rfl, hxi⟩ := y
      rw [List.getElem?_map] at hxi
      obtain ⟨b, hb, rfl⟩ := Option.map_eq_some_iff.mp hxi
      have bm : b ∈ ks := pk.mem_iff.mp (List.mem_of_getElem? hb)
      obtain ⟨v, v1, v2⟩ := tl2.va b bm
      obtain ⟨la, xs, rfl, hsl, hxl⟩ := dp_list (v2.ex gr.ff)
      refine ⟨F', Gr.refl gr.fh, turnD1 rfl fun Yes h => ⟨_, rfl, ?_⟩⟩
      refine ⟨_, rfl, _, rfl, a, .ref la, rfl, .inl ⟨kvs, Sum.inr b, .inl (gr.at (g2.at ha)), rfl, v1.symm⟩, ?_⟩
      refine ⟨Str, eS, m b, la, xs, F', rfl, gr.fh, sees_l gr.fh hsl, hxl, alikeS _, sortableS _, fun b _ => eS_depth b, fun ys p3 hy hp3 => ?_⟩
      have h3 := (Gr.refl (B := []) gr.fh).newM (o := .lst ys) hp3
      refine .mk ⟨p3, ys, rfl, .inl ⟨.inl (.inl upd_same), fun l hl' => ?_⟩⟩
      have h4 := h3.new (o := .tup ys) hl'
      exact h (Sum.inr b) _ _ _ h4 (tells_put (pv.ex h4.ff) nd2 hb (.tup (.inl (.inl upd_same)) (hy.ex h4.ff)))
    rw [List.length_map, List.take_length] at pv
    have g3 := g2.trans gr
    have hxD : D ≠ x := fun e => by rw [e, g2.at hx] at hD; cases hD
    have hD0 : H D = none := g2.dm _ hD
    have fx3 := g3.none' fx (by rw [hx]; exact fun z => nomatch z)
    clear gr g2 s2 hD
    generalize em : (fun s => (m s).mergeSort (PySem.W.dataLe false eS)) = m2 at pv
    have pm : ∀ k, (m2 k).Perm (m k) := fun k => em ▸ List.mergeSort_perm _ _
    -- kept
    refine ⟨_, rfl, x, C, dx, [], rfl, g3.at hx, TW_.cl, TW_.nM, by decide, ?_⟩
    have g4 := ((g3.mono (B' := [x]) (fun b hb => absurd hb (by simp))).mut (o := .ins C dx (putF "own_marks" (.ref D) [])) fx3 (.inl (List.mem_singleton.mpr rfl))).done hD0 fD (by rw [upd_ne hxD]; exact hDc)
    have c4 : upd H' x (.ins C dx (putF "own_marks" (.ref D) [])) x = some (.ins C dx (putF "own_marks" (.ref D) [])) := upd_same
    have d4 : upd H' x (.ins C dx (putF "own_marks" (.ref D) [])) D = some (.dK acc) := by rw [upd_ne hxD]; exact hDc
    have e4 := Ex.new (o := HO.dK acc) fD
    have pv4 := pv.ex e4
    have f4 : upd F' D (.dK acc) D = some (.dK acc) := upd_same
    have fx4 : upd F' D (.dK acc) x = none := by rw [upd_ne (Ne.symm hxD)]; exact fx3
    generalize upd F' D (.dK acc) = F5 at g4 pv4 f4 fx4
    generalize upd H' x (.ins C dx (putF "own_marks" (.ref D) [])) = H6 at g4 c4 d4 ⊢
    clear g3 pv e4 fx3 fD hDc
    -- sounds
    refine ⟨_, rfl, x, C, dx, _, _, rfl, c4, TW_.cl, TW_.nM, rfl, ?_⟩
    refine .mk ⟨D, acc, rfl, .inl d4, fun p4 hp4 => ?_⟩
    rw [tells_keys pv4]
    refine ⟨_, rfl, x, C, dx, _, rfl, by rw [upd_ne (ne_of_none c4 hp4)]; exact c4, TW_.cl, TW_.nS, by show 1 < 1000; decide, ?_⟩
    have g5 := (g4.new (o := .tup (ks2.map V.str)) hp4).mut (o := .ins C dx (putF "sounds" (.ref p4) (putF "own_marks" (.ref D) []))) (p := x) (by rw [upd_ne (ne_of_none c4 hp4)]; exact fx4) (.inl (List.mem_singleton.mpr rfl))
    have c5 : upd (upd H6 p4 (.tup (ks2.map V.str))) x (.ins C dx (putF "sounds" (.ref p4) (putF "own_marks" (.ref D) []))) x = some (.ins C dx (putF "sounds" (.ref p4) (putF "own_marks" (.ref D) []))) := upd_same
    have d5 : upd (upd H6 p4 (.tup (ks2.map V.str))) x (.ins C dx (putF "sounds" (.ref p4) (putF "own_marks" (.ref D) []))) D = some (.dK acc) := by rw [upd_ne hxD, upd_ne (ne_of_none d4 hp4)]; exact d4
    have e5 := Ex.new (o := HO.tup (ks2.map V.str)) (g4.fh.dm hp4)
    have pv5 := pv4.ex e5
    have f5 := e5 _ _ f4
    have fx5 : upd F5 p4 (.tup (ks2.map V.str)) x = none := by rw [upd_ne (ne_of_none c4 hp4)]; exact fx4
    generalize upd F5 p4 (.tup (ks2.map V.str)) = F6 at g5 pv5 f5 fx5
    generalize upd (upd H6 p4 (.tup (ks2.map V.str))) x (.ins C dx (putF "sounds" (.ref p4) (putF "own_marks" (.ref D) []))) = H7 at g5 c5 d5 ⊢
    clear g4 c4 d4 e5 pv4 f4 fx4
    -- every
    refine ⟨D, _, d5, True.intro, fun od2 => ?_⟩
    have xD : x ≠ D := Ne.symm hxD
    have c6 : upd H7 D (.frz od2 (.dK acc)) x = some (.ins C dx (putF "sounds" (.ref p4) (putF "own_marks" (.ref D) []))) := by rw [upd_ne xD]; exact c5
    have d6 : upd H7 D (.frz od2 (.dK acc)) D = some (.frz od2 (.dK acc)) := upd_same
    refine ⟨_, rfl, x, C, dx, _, _, rfl, c6, TW_.cl, TW_.nM, rfl, ?_⟩
    refine ⟨D, od2, rfl, .inl ⟨acc, d6, fun E hE => ?_⟩⟩
    have lk5 := tells_len pv5
    have sl := sees_lock (od := od2) g5.fh f5
    have zk2 : ks2.length ≤ 100 := by rw [pk.length_eq]; exact zk
    refine loop_it walk_keys (fun i H' => ∃ F' l, Gr [] F6 (upd H7 D (.frz od2 (.dK acc))) F' H' ∧ F' E = none ∧ H' E = some (.lst (l.map V.str)) ∧ l.length ≤ 6 * i ∧ ∀ z : Str, z ∈ l ↔ z ≠ "" ∧ ∃ k ∈ ks2.take i, z ∈ m2 k)
      ⟨F6, [], (Gr.refl sl).newM hE, sl.dm hE, upd_same, Nat.zero_le _, by simp⟩ (fun i H' _ ⟨F', l, g, _⟩ => g.at d6) (fun i x' H' H'' hi ⟨F', l, g, fE, hE', ll, hl⟩ y => ?_) fun H' ⟨F', l, g, fE, hE', ll, hl⟩ => ?_
    · obtain ⟨rfl, k, v, e1, rfl⟩ := y
      have hi' : i < ks2.length := by rw [← lk5]; exact hi
      have hb : ks2[i]? = some ks2[i] := List.getElem?_eq_getElem hi'
      generalize ks2[i] = b at hb
      obtain rfl := tells_at pv5 e1 hb
      have bm : b ∈ ks := pk.mem_iff.mp (List.mem_of_getElem? hb)
      obtain ⟨v', v1, v2⟩ := pv5.va b (List.mem_of_getElem? hb)
      have tk : ks2.take (i + 1) = ks2.take i ++ [b] := by rw [List.take_add_one, hb]; rfl
      obtain ⟨m1, m6, mz, mn⟩ := okm b bm
      have lb : (m2 b).length ≤ 6 := by rw [(pm b).length_eq]; exact m6
      refine ⟨rfl, yesI ?_⟩
      refine ⟨_, rfl, x, C, dx, _, _, rfl, g.at c6, TW_.cl, TW_.nM, rfl, _, rfl, D, v', rfl, .inl ⟨acc, Sum.inr b, .inr ⟨od2, g.at d6⟩, rfl, v1.symm⟩, ?_⟩
      refine seq_walk (v2.ex g.ff) (.inr rfl) g.fh fun J xs G w1 hG hxs hlen => ?_
      rw [hxs.length] at w1
      refine loop_it w1 (fun j H' => ∃ F'' l', Gr [E] F' H'' F'' H' ∧ F'' E = none ∧ H' E = some (.lst (l'.map V.str)) ∧ l'.length ≤ 6 * i + j ∧ ∀ z : Str, z ∈ l' ↔ z ≠ "" ∧ ((∃ k ∈ ks2.take i, z ∈ m2 k) ∨ z ∈ (m2 b).take j))
        ⟨F', l, Gr.refl g.fh, fE, hE', ll, fun z => by rw [hl z]; simp⟩ (fun j H' _ ⟨F'', l', g', _⟩ => hG H' (fun a o e => g'.fh a o (g'.ff a o e))) (fun j x' H' H'' hj ⟨F'', l', g', fE', hE'', ll', hl'⟩ y => ?_) fun H' ⟨F'', l', g', fE', hE'', ll', hl'⟩ => ?_
      · obtain ⟨rfl, hxi⟩ := y
        obtain ⟨d, h1, h2⟩ := hxs.get hxi
        rw [List.getElem?_map] at h1
        obtain ⟨z, hz, rfl⟩ := Option.map_eq_some_iff.mp h1
        cases h2
        rw [List.length_map] at hj
        have tz : (m2 b).take (j + 1) = (m2 b).take j ++ [z] := by rw [List.take_add_one, hz]; rfl
        refine ⟨rfl, ?_⟩
        refine ⟨_, rfl, rfl, _, rfl, ?_⟩
        have kE := (Gr.refl (B := [E]) g'.fh).mut (o := .lst ((l' ++ [z]).map V.str)) fE' (.inl (List.mem_singleton.mpr rfl))
        by_cases e : z = ""
        · refine iteNo (by rw [e]; decide) ⟨F'', l', g', fE', hE'', by omega, fun u => ?_⟩
          rw [hl' u, tz]
          constructor
          · rintro ⟨u1, u2⟩
            exact ⟨u1, u2.imp id fun q => by simp [q]⟩
          · rintro ⟨u1, u2⟩
            refine ⟨u1, u2.imp id fun q => ?_⟩
            rw [List.mem_append, List.mem_singleton] at q
            exact q.resolve_right fun q => u1 (q.trans e)
        · refine iteYes (by rw [Bool.not_eq_true', decide_eq_false_iff_not]; exact fun q => e (V.str.inj q)) ⟨_, rfl, _, hE'', by rw [sizeLine_eq, List.length_map]; omega, ?_⟩
          rw [show l'.map V.str ++ [V.str z] = (l' ++ [z]).map V.str by rw [List.map_append]; rfl]
          refine ⟨F'', l' ++ [z], g'.trans kE (fun b hb => .inl hb), fE', upd_same, by simp; omega, fun u => ?_⟩
          rw [List.mem_append, List.mem_singleton, hl' u, tz, List.mem_append, List.mem_singleton]
          constructor
          · rintro (⟨u1, u2⟩ | rfl)
            · exact ⟨u1, u2.imp id .inl⟩
            · exact ⟨e, .inr (.inr rfl)⟩
          · rintro ⟨u1, u2 | u2 | u2⟩
            · exact .inl ⟨u1, .inl u2⟩
            · exact .inl ⟨u1, .inr u2⟩
            · exact .inr u2
      · refine ⟨F'', l', g.trans g' (fun b hb => .inr (by rw [List.mem_singleton.mp hb]; exact hE)), fE', hE'', ?_, fun z => ?_⟩
        · rw [List.length_map] at ll'
          omega
        · rw [hl' z, List.length_map, List.take_length, tk]
          simp [or_and_right, exists_or]
    · rw [lk5, List.take_length] at hl
      have hED : D ≠ E := ne_of_none d6 hE
      refine ⟨g.at d6, ?_⟩
      have gF := Gr.unlock f5 d5 (g.done hE fE hE')
      have e7 := gF.ff
      have gG := g5.trans gF
      have c7 := gF.at c5
      have E7 : upd H' D (.dK acc) E = some (.lst (l.map V.str)) := by rw [upd_ne (Ne.symm hED)]; exact hE'
      have fx7 := gF.none' fx5 (by rw [c5]; exact fun z => nomatch z)
      have f7 := e7 _ _ f5
      generalize upd F' E (.lst (l.map V.str)) = F8 at gG e7 fx7 f7
      generalize upd H' D (.dK acc) = H8 at gG c7 E7 ⊢
      clear gF g hE' fE
      refine ⟨_, rfl, E, l.map Sum.inr, rfl, .inl (by rw [keys_str]; exact .inl (.inl E7)), by rw [List.length_map]; omega, fun q1 n hq1 hn hex => ⟨q1, l, n, rfl, upd_same, fun ns p5 srt nd mem len hp5 => ?_⟩⟩
      refine .mk ⟨p5, _, rfl, .inl ⟨.inl (.inl upd_same), fun p6 hp6 => ?_⟩⟩
      have g8 := ((gG.newM (o := SKO w q1 (l.map Sum.inr) n) hq1).newM (o := .lst (ns.map V.str)) hp5).new (o := .tup (ns.map V.str)) hp6
      have n1 := ne_of_none c7 hq1
      have c71 : upd H8 q1 (SKO w q1 (l.map Sum.inr) n) x = some _ := (upd_ne n1).trans c7
      have n2 := ne_of_none c71 hp5
      have c72 : upd (upd H8 q1 (SKO w q1 (l.map Sum.inr) n)) p5 (.lst (ns.map V.str)) x = some _ := (upd_ne n2).trans c71
      have n3 := ne_of_none c72 hp6
      have c73 : upd (upd (upd H8 q1 (SKO w q1 (l.map Sum.inr) n)) p5 (.lst (ns.map V.str))) p6 (.tup (ns.map V.str)) x = some _ := (upd_ne n3).trans c72
      refine ⟨_, rfl, x, C, dx, _, rfl, c73, TW_.cl, TW_.nA, by show 2 < 1000; decide, ?_⟩
      have fx8 : upd F8 p6 (.tup (ns.map V.str)) x = none := by rw [upd_ne n3]; exact fx7
      have g9 := g8.mut (o := .ins C dx (waF (.ref D) (.ref p4) (.ref p6))) fx8 (.inl (List.mem_singleton.mpr rfl))
      refine q ⟨ks2, m2, ns⟩ _ _ pk (fun k _ => pm k) g9 fx8 ?_
      have e8 : Ex F6 (upd (upd F8 p6 (.tup (ns.map V.str))) x (.ins C dx (waF (.ref D) (.ref p4) (.ref p6)))) := (e7.trans (Ex.new ((gG.newM (o := SKO w q1 (l.map Sum.inr) n) hq1).newM (o := .lst (ns.map V.str)) hp5 |>.fh.dm hp6))).trans (Ex.new fx8)
      have xp : p6 ≠ x := Ne.symm n3
      rw [upd_same, Option.getD_some]
      refine ⟨⟨dx, D, .ref p4, .ref p6, acc, upd_same, e8 _ _ f5, pv5.ex e8, .tup (.inl (.inl ?_)) (dps_str.mpr rfl)⟩, nd2, fun z => ?_, nd⟩
      · rw [upd_ne xp, upd_same]
      · show z ∈ ns ↔ _
        rw [mem z, hl z]
end
end TW
set_option Elab.async false
set_option linter.all false
set_option maxRecDepth 100000
set_option maxHeartbeats 8000000
/-! need_speech, need_wall, Hearing -/
namespace TW
open PySem PySem.Spec PyProof.Rows L2 RZ StX
open Evl (Ex)
/-- a class whose instances isinstance tells -/
structure InsC (K : PySem.W.Frag) (C : Addr) : Prop where
  cl : Cls K C
  ha : PySem.W.findIn K (.ref C) "__class__" = some (some (.builtin "object.__class__"))
  hn : PySem.W.specialIn K (.builtin "object.__class__") "__get__" = some (some (.builtin "getset_descriptor.__get__"))
  ht : PySem.W.takesIn K (.builtin "object.__class__") = some true
  hm : PySem.W.mroIn K C (.type "object") = some true
theorem isi_own {K : PySem.W.Frag} {H : Hp} {x C dx : Addr} {fs : List (Str × V)} {Q : VK} (I : InsC K C) (h : H x = some (.ins C dx fs)) (q : Q (.bl true) H) : rIsiD K [.ref x, .ref C] H Q :=
  .mk ⟨.ref x, .ref C, .ref C, .ref C, true, rfl, .own C, .base (.ins h I.cl I.ha I.hn I.ht I.hm), by simp [PySem.W.kitOne], q⟩
theorem nodup_le {α : Type} [DecidableEq α] : ∀ {l m : List α}, l.Nodup → (∀ k ∈ l, k ∈ m) → l.length ≤ m.length
  | [], m, _, _ => Nat.zero_le _
  | x :: l, m, nd, h => by
    obtain ⟨n1, n2⟩ := List.nodup_cons.mp nd
    have hx := h x List.mem_cons_self
    have := nodup_le (l := l) (m := m.erase x) n2 fun k hk => (List.mem_erase_of_ne (fun e => n1 (by rw [← e]; exact hk))).mpr (h k (List.mem_cons_of_mem _ hk))
    rw [List.length_erase_of_mem hx] at this
    have := List.length_pos_of_mem hx
    simp only [List.length_cons]
    omega
theorem SpD.Ok.zlen {s : SpD} (h : s.Ok) : s.Z.length ≤ s.A.length := by
  have := nodup_le (m := s.A.map fun a => a.2.1) h.nd fun k hk => by
    obtain ⟨a, h1, h2⟩ := (h.so k).mp hk
    exact List.mem_map.mpr ⟨a, h1, h2⟩
  rwa [List.length_map] at this
/-- a key map: what it holds at the int p (nothing: []) -/
def Holds (K : PySem.W.Frag) (F : Hp) (kvs : List (Key × V)) (p : Int) (l : List Int) : Prop := (valV kvs (Sum.inl p) = none ∧ l = []) ∨ ∃ v, valV kvs (Sum.inl p) = some v ∧ Dp K F v (.tuple (l.map .int))
theorem Holds.ex {K : PySem.W.Frag} {F F' : Hp} {kvs : List (Key × V)} {p : Int} {l : List Int} (h : Holds K F kvs p l) (e : Ex F F') : Holds K F' kvs p l := h.imp id fun ⟨v, h1, h2⟩ => ⟨v, h1, h2.ex e⟩
/-- the Hearing of the arrows: tr the triples (place, mark, later) that are told so far -/
structure HInv (K : PySem.W.Frag) (U : Addr) (P : List Int) (all : List Str) (ad : List Addr) (tr : List (Int × Str × Int)) (F H : Hp) : Prop where
  u : ∃ kU, H U = some (.dK kU) ∧ kU.length ≤ 4000 + tr.length ∧ ∀ p ∈ P, ∃ (v : V) (l : List Int), valV kU (Sum.inl p) = some v ∧ Dp K F v (.tuple (l.map .int)) ∧ l.length ≤ tr.length ∧ ∀ q, q ∈ l ↔ (p, ("" : Str), q) ∈ tr
  d : ∀ (j : Nat) (k : Str) (a : Addr), all[j]? = some k → ad[j]? = some a → ∃ kD, H a = some (.dK kD) ∧ kD.length ≤ tr.length ∧ ∀ p, ∃ l : List Int, Holds K F kD p l ∧ l.length ≤ tr.length ∧ ∀ q, q ∈ l ↔ (p, k, q) ∈ tr
abbrev heF (vs vw vu vl : V) : List (Str × V) := putF "led" vl (putF "unheard" vu (putF "wall" vw (putF "speech" vs [])))
/-- the triples of arrows heard through a wall -/
def trip (m : Str → List Str) (A : List Arr) : List (Int × Str × Int) := A.flatMap fun a => (m a.2.1).map fun k => (a.1, k, a.2.2)
theorem mem_trip {m : Str → List Str} {A : List Arr} {p q : Int} {k : Str} : (p, k, q) ∈ trip m A ↔ ∃ z, (p, z, q) ∈ A ∧ k ∈ m z := by
  unfold trip
  rw [List.mem_flatMap]
  constructor
  · rintro ⟨⟨p', z, q'⟩, h1, h2⟩
    obtain ⟨k', h3, h4⟩ := List.mem_map.mp h2
    cases h4
    exact ⟨z, h1, h3⟩
  · rintro ⟨z, h1, h2⟩
    exact ⟨(p, z, q), h1, List.mem_map.mpr ⟨k, h2, rfl⟩⟩
section
variable {K : PySem.W.Frag} {U : Addr} {P : List Int} {all : List Str} {ad : List Addr} {tr : List (Int × Str × Int)} {F F' H H' : Hp}
theorem HInv.ex (h : HInv K U P all ad tr F H) (e : Ex F F') : HInv K U P all ad tr F' H := by
  obtain ⟨⟨kU, h1, h2, h3⟩, hd⟩ := h
  refine ⟨⟨kU, h1, h2, fun p hp => ?_⟩, fun j k a hk ha => ?_⟩
  · obtain ⟨v, l, q1, q2, q3, q4⟩ := h3 p hp
    exact ⟨v, l, q1, q2.ex e, q3, q4⟩
  · obtain ⟨kD, q1, q2, q3⟩ := hd j k a hk ha
    refine ⟨kD, q1, q2, fun p => ?_⟩
    obtain ⟨l, r1, r2, r3⟩ := q3 p
    exact ⟨l, r1.ex e, r2, r3⟩
theorem HInv.heap (h : HInv K U P all ad tr F H) (e : ∀ a o, a ∈ U :: ad → H a = some o → H' a = some o) : HInv K U P all ad tr F H' := by
  obtain ⟨⟨kU, h1, h2, h3⟩, hd⟩ := h
  refine ⟨⟨kU, e _ _ List.mem_cons_self h1, h2, h3⟩, fun j k a hk ha => ?_⟩
  obtain ⟨kD, q1, q2, q3⟩ := hd j k a hk ha
  exact ⟨kD, e _ _ (List.mem_cons_of_mem _ (List.mem_of_getElem? ha)) q1, q2, q3⟩
theorem HInv.putU (h : HInv K U P all ad tr F H) {kU : List (Key × V)} (hU : H U = some (.dK kU)) {p q : Int} {t : V} {l : List Int} (hl : l.length ≤ tr.length) (hm : ∀ q', q' ∈ l ↔ (p, ("" : Str), q') ∈ tr)
    (ht : Dp K F t (.tuple ((l ++ [q]).map .int))) (nU : U ∉ ad) (na : ("" : Str) ∉ all) : HInv K U P all ad (tr ++ [(p, ("" : Str), q)]) F (upd H U (.dK (putK kU (Sum.inl p) t))) := by
  obtain ⟨⟨kU', h1, h2, h3⟩, hd⟩ := h
  rw [hU] at h1
  cases h1
  refine ⟨⟨_, upd_same, ?_, fun p' hp => ?_⟩, fun j k a hk ha => ?_⟩
  · have := length_putK kU (Sum.inl p) t
    rw [List.length_append, List.length_singleton]
    omega
  · rw [valV_put]
    by_cases e : p' = p
    · subst e
      exact ⟨t, l ++ [q], by rw [if_pos rfl], ht, by simp; omega, fun q' => by simp [hm q']⟩
    · obtain ⟨v, l', q1, q2, q3, q4⟩ := h3 p' hp
      exact ⟨v, l', by rw [if_neg fun z => e (Sum.inl.inj z)]; exact q1, q2, by simp; omega, fun q' => by simp [q4 q', e]⟩
  · obtain ⟨kD, q1, q2, q3⟩ := hd j k a hk ha
    have kne : k ≠ "" := fun e => na (e ▸ List.mem_of_getElem? hk)
    have hne : a ≠ U := fun e => nU (by rw [← e]; exact List.mem_of_getElem? ha)
    refine ⟨kD, by rw [upd_ne hne]; exact q1, by simp; omega, fun p' => ?_⟩
    obtain ⟨l', r1, r2, r3⟩ := q3 p'
    exact ⟨l', r1, by simp; omega, fun q' => by simp [r3 q', kne]⟩
theorem HInv.putD (h : HInv K U P all ad tr F H) {j : Nat} {k : Str} {a : Addr} (hk : all[j]? = some k) (ha : ad[j]? = some a) {kD : List (Key × V)} (hD : H a = some (.dK kD)) {p q : Int} {t : V} {l : List Int} (hl : l.length ≤ tr.length)
    (hm : ∀ q', q' ∈ l ↔ (p, k, q') ∈ tr) (ht : Dp K F t (.tuple ((l ++ [q]).map .int))) (nU : U ∉ ad) (nd : ad.Nodup) (an : all.Nodup) (k0 : k ≠ "") : HInv K U P all ad (tr ++ [(p, k, q)]) F (upd H a (.dK (putK kD (Sum.inl p) t))) := by
  obtain ⟨⟨kU, h1, h2, h3⟩, hd⟩ := h
  have hne : U ≠ a := fun e => nU (by rw [e]; exact List.mem_of_getElem? ha)
  refine ⟨⟨kU, by rw [upd_ne hne]; exact h1, by simp; omega, fun p' hp => ?_⟩, fun j' k' a' hk' ha' => ?_⟩
  · obtain ⟨v, l', q1, q2, q3, q4⟩ := h3 p' hp
    exact ⟨v, l', q1, q2, by simp; omega, fun q' => by simp [q4 q', Ne.symm k0]⟩
  · obtain ⟨kD', q1, q2, q3⟩ := hd j' k' a' hk' ha'
    by_cases e : a' = a
    · subst e
      rw [hD] at q1
      cases q1
      have ej : j' = j := (List.getElem?_inj (List.getElem?_eq_some_iff.mp ha').1 nd).mp (ha'.trans ha.symm)
      subst ej
      rw [hk] at hk'
      cases hk'
      refine ⟨_, upd_same, ?_, fun p' => ?_⟩
      · have := length_putK kD (Sum.inl p) t
        simp
        omega
      · by_cases ep : p' = p
        · subst ep
          exact ⟨l ++ [q], .inr ⟨t, by rw [valV_put, if_pos rfl], ht⟩, by simp; omega, fun q' => by simp [hm q']⟩
        · obtain ⟨l', r1, r2, r3⟩ := q3 p'
          refine ⟨l', ?_, by simp; omega, fun q' => by simp [r3 q', ep]⟩
          unfold Holds
          rw [valV_put, if_neg fun z => ep (Sum.inl.inj z)]
          exact r1
    · have kk : k' ≠ k := fun z => by
        subst z
        have ej : j' = j := (List.getElem?_inj (List.getElem?_eq_some_iff.mp hk').1 an).mp (hk'.trans hk.symm)
        subst ej
        rw [ha] at ha'
        cases ha'
        exact e rfl
      refine ⟨kD', by rw [upd_ne e]; exact q1, by simp; omega, fun p' => ?_⟩
      obtain ⟨l', r1, r2, r3⟩ := q3 p'
      exact ⟨l', r1, by simp; omega, fun q' => by simp [r3 q', kk]⟩
end
theorem trip_snoc {m : Str → List Str} {A : List Arr} {a : Arr} : trip m (A ++ [a]) = trip m A ++ (m a.2.1).map fun k => (a.1, k, a.2.2) := by
  unfold trip
  rw [List.flatMap_append]
  simp
theorem trip_len {m : Str → List Str} : ∀ {A : List Arr}, (∀ a ∈ A, (m a.2.1).length ≤ 6) → (trip m A).length ≤ 6 * A.length
  | [], _ => by simp [trip]
  | a :: A, h => by
    have h1 := trip_len (A := A) fun b hb => h b (List.mem_cons_of_mem _ hb)
    have h2 := h a List.mem_cons_self
    unfold trip at h1 ⊢
    rw [List.flatMap_cons, List.length_append, List.length_map, List.length_cons]
    omega
theorem dps3 {K : PySem.W.Frag} {F : Hp} {xs : List V} {p r : Int} {z : Str} (h : DpAll K F xs [.int p, .str z, .int r]) : xs = [.int p, .str z, .int r] := by
  cases h with
  | cons h1 t => cases t with
    | cons h2 t => cases t with
      | cons h3 t =>
        cases t
        rw [dp_int.mp h1, dp_str.mp h2, dp_int.mp h3]
theorem Gr.freeze {B0 : List Addr} {F H H1 : Hp} : ∀ (B : List Addr) {F1 : Hp}, Gr B0 F H F1 H1 → (∀ b ∈ B, H b = none ∧ (F1 b = none ∨ F1 b = H1 b) ∧ H1 b ≠ none) → ∃ F2, Gr B0 F H F2 H1 ∧ Ex F1 F2 ∧ (∀ b ∈ B, F2 b = H1 b) ∧ ∀ a, a ∉ B → F2 a = F1 a
  | [], F1, g, _ => ⟨F1, g, Ex.refl _, fun b h => by simp at h, fun _ _ => rfl⟩
  | b :: r, F1, g, h => by
    obtain ⟨h1, h2, h3⟩ := h b List.mem_cons_self
    obtain ⟨o, ho⟩ := Option.ne_none_iff_exists'.mp h3
    rcases h2 with h2 | h2
    · obtain ⟨F2, q1, q2, q3, q4⟩ := Gr.freeze r (g.done h1 h2 ho) fun c hc => by
        obtain ⟨k1, k2, k3⟩ := h c (List.mem_cons_of_mem _ hc)
        refine ⟨k1, ?_, k3⟩
        by_cases e : c = b
        · subst e
          exact .inr (by rw [upd_same, ho])
        · rw [upd_ne e]
          exact k2
      refine ⟨F2, q1, (Ex.new h2).trans q2, fun c hc => ?_, fun a ha => ?_⟩
      · by_cases e : c ∈ r
        · exact q3 c e
        · obtain rfl := (List.mem_cons.mp hc).resolve_right e
          rw [q4 c e, upd_same, ho]
      · rw [List.mem_cons, not_or] at ha
        rw [q4 a ha.2, upd_ne ha.1]
    · obtain ⟨F2, q1, q2, q3, q4⟩ := Gr.freeze r g fun c hc => h c (List.mem_cons_of_mem _ hc)
      refine ⟨F2, q1, q2, fun c hc => ?_, fun a ha => q4 a fun z => ha (List.mem_cons_of_mem _ z)⟩
      by_cases e : c ∈ r
      · exact q3 c e
      · obtain rfl := (List.mem_cons.mp hc).resolve_right e
        rw [q4 c e, h2]
structure HeAt (K : PySem.W.Frag) (CH CS CW : Addr) (F : Hp) (x : Addr) (s : SpD) (wd : WaD) : Prop where
  ex : ∃ (dx sx wx U L : Addr) (ad : List Addr) (kL : List (Key × V)), F x = some (.ins CH dx (heF (.ref sx) (.ref wx) (.ref U) (.ref L))) ∧ SpAt K CS F sx s ∧ WaAt K CW F wx wd ∧ F L = some (.dK kL) ∧ kL.map (·.1) = wd.all.map Sum.inr ∧ (∀ (j : Nat) (k : Str) (a : Addr), wd.all[j]? = some k → ad[j]? = some a → valV kL (Sum.inr k) = some (.ref a)) ∧
    ad.length = wd.all.length ∧ ∃ tr, HInv K U s.P wd.all ad tr F F ∧ ∀ t, t ∈ tr ↔ t ∈ trip wd.m s.A
structure HeC (K : PySem.W.Frag) (C : Addr) : Prop where
  cl : Cls K C
  nS : NoAttr K C "speech"
  nW : NoAttr K C "wall"
  nU : NoAttr K C "unheard"
  nL : NoAttr K C "led"
def spNeedSp (K : PySem.W.Frag) (CS : Addr) : Sp := fun vs H Q _ => ∃ (F : Hp) (x : Addr) (y : V) (s : SpD), vs = [.ref x, y] ∧ Sees F H ∧ SpAt K CS F x s ∧ ∀ F' H', Gr [] F H F' H' → Q .non H'
def spNeedWa (K : PySem.W.Frag) (CS CW : Addr) : Sp := fun vs H Q _ => ∃ (F : Hp) (x y : Addr) (s : SpD) (wd : WaD), vs = [.ref y, .ref x] ∧ Sees F H ∧ SpAt K CS F x s ∧ WaAt K CW F y wd ∧ s.A.length ≤ 2000 ∧ (∀ z ∈ s.Z, z ∈ wd.ks) ∧ ∀ F' H', Gr [] F H F' H' → Q .non H'
/-- THE RULE for a def with defaults -/
theorem okD {P : Program} {w : World} {K : PySem.W.Frag} {mg : Str → Option Value} {base : Heap} {x qual : Str} {st : Stmt} {dvs : List V} {f : Addr} {fd : FuncData} {N ps : List Str} {k : Nat} {sp : Sp} (F : FunD K x qual (defArgs st) (defBody st) (defScope st) dvs [] f fd) (S : FnScope N ps (defScope st)) (len : ∀ vs H Q E, sp vs H Q E → vs.length = ps.length)
    (hbody : ∀ (cdv : Value) (A : Around) (outer : List Env) (s : Shared) (H : Hp) (vs : List V) (Q : VK) (E : XK), Room k (A.deeper (envOfC qual (defScope st) s.heap.objs.size f cdv)) → sp vs H Q E →
      ∃ t, PSs (cxOf CX0 P w K mg base N qual (defScope st) f cdv A outer s H E).nox (defBody st) t ∧ t { nx := fun _ H' => Q .non H', rt := Q } (start N vs) H) : FnOk P w K mg base CX0 (k + 1) f fd ps sp :=
  F.ok S len fun cdv A outer s H vs Q E hr h => by
    obtain ⟨t, h1, h2⟩ := hbody cdv A outer s H vs Q E hr h
    exact ⟨t, h1.nox, h2⟩
section
variable {P : Program} {w : World} {K : PySem.W.Frag} {mg : Str → Option Value} {base : Heap}
theorem ok_need_speech {f CS : Addr} {fd : FuncData} (F : FunD K "need_speech" "need_speech" (defArgs s_need_speech) (defBody s_need_speech) (defScope s_need_speech) [.str "speech"] [] f fd) (T : Txt mg) (g_Speech : mg "Speech" = some (.ref CS)) (IS : InsC K CS) : FnOk P w K mg base CX0 1 f fd ["value", "part"] (spNeedSp K CS) := by
  refine okD F sc_need_speech (fun vs H Q E h => ?_) (fun cdv A outer s H vs Q E hr h => ?_)
  · obtain ⟨F0, x, y, s, rfl, _⟩ := h
    rfl
  · obtain ⟨F0, x, y, s, rfl, fs, ⟨⟨dx, va, vs, vp, vz, vd, hx, _⟩, _⟩, q⟩ := h
    refine ⟨_, (pss_one (ps_if (pt_not (pt_val (pe_callB (cr_isi K) (by rfl) T.isinstance bt_isinstance (pa_cons (pv 0) (pa_cons (zown g_Speech) pa_nil)))))
        (pss_one ps_never)
        pss_nil)), ?_⟩
    exact ⟨_, rfl, isi_own IS (sees_i fs hx) ⟨_, rfl, iteF (q _ _ (Gr.refl fs))⟩⟩
theorem ok_need_wall {f CS CW : Addr} {fd : FuncData} (F : Fun K "need_wall" "need_wall" s_need_wall f fd) (T : Txt mg) (g_Wall : mg "Wall" = some (.ref CW)) (IW : InsC K CW) (TS : SpC K CS) (TW_ : WaC K CW) : FnOk P w K mg base CX0 2 f fd ["value", "speech"] (spNeedWa K CS CW) := by
  refine F.ok sc_need_wall (fun vs H Q E h => ?_) (fun cdv A outer s H vs Q E hr h => ?_)
  · obtain ⟨F0, x, y, s, wd, rfl, _⟩ := h
    rfl
  · obtain ⟨F0, x, y, s, wd, rfl, fs, ⟨⟨dx, va, vs, vp, vz, vd, hx, hA, hS, hP, hZ⟩, oks⟩, ⟨⟨dy, D, vs', va', kvs, hy, hD, tl, _⟩, _⟩, zA, sub, q⟩ := h
    have hu := hu_of hr
    refine ⟨_, (pss_cons (ps_if (pt_not (pt_val (pe_callB (cr_isi K) (by rfl) T.isinstance bt_isinstance (pa_cons (pv 0) (pa_cons (zown g_Wall) pa_nil)))))
        (pss_one ps_never)
        pss_nil)
      (pss_one (ps_if (pt_not (pt_val (pe_callB (cr_allD K) (by rfl) T.all bt_all (pa_cons (pe_lc (own := [("sound", 2)]) rfl sc_need_wall.nd (zseq K (zfld K (pv 1))) (blkOk_by (N := sc_need_wallN) (sc := defScope s_need_wall) (by decide +kernel)) (fun _ _ _ _ _ => (zg (i := 2) sc_need_wall.nd)) (fun _ _ _ _ _ => pts_nil) (fun _ _ _ _ _ => (pe_cmp (pc_din hu (pv 2) (zfld K (pv 0)))))) pa_nil))))
        (pss_one ps_never)
        pss_nil))), ?_⟩
    refine ⟨_, rfl, isi_own IW (sees_i fs hy) ⟨_, rfl, iteF ?_⟩⟩
    refine ⟨_, rfl, x, CS, dx, _, _, rfl, sees_i fs hx, TS.cl, TS.nZ, rfl, ?_⟩
    refine seq_walk hZ (.inr rfl) fs fun J xs G w1 hG hxs hlen E hE => ?_
    have zl := oks.zlen
    refine lc_seqB (bs := s.Z) (enc := .str) (f := fun _ => true) w1 hxs fs hG (by omega) (fun b v F' H' hb g2 hv => turn1 rfl fun Yes h => ?_) hE fun F2 H2 g2 fE hEc => ?_
    · rw [dp_str] at hv
      subst hv
      obtain ⟨v', v1, v2⟩ := tl.va b (sub b hb)
      refine ⟨_, rfl, _, rfl, y, CW, dy, _, _, rfl, g2.at (sees_i fs hy), TW_.cl, TW_.nM, rfl, D, _, rfl, .inl ⟨kvs, Sum.inr b, sees_d g2.fh (g2.ff _ _ hD), rfl, rfl⟩, ?_⟩
      rw [v1]
      exact h _ _ _ (Gr.refl g2.fh) rfl
    · refine all_new hEc ⟨_, rfl, ?_⟩
      rw [List.all_map, show s.Z.all (id ∘ fun _ => true) = true from List.all_eq_true.mpr fun z h => rfl]
      exact iteF (q _ _ g2)
def spHeI (K : PySem.W.Frag) (CH CS CW : Addr) : Sp := fun vs H Q _ => ∃ (F : Hp) (x dx sx wx : Addr) (s : SpD) (wd : WaD), vs = [.ref x, .ref sx, .ref wx] ∧ H x = some (.ins CH dx []) ∧ F x = none ∧ Sees F H ∧ SpAt K CS F sx s ∧ WaAt K CW F wx wd ∧
  s.A.length ≤ 2000 ∧ s.P.length ≤ 4000 ∧ wd.all.length ≤ 4000 ∧ (∀ k ∈ wd.ks, (wd.m k).length ≤ 6) ∧ (∀ z ∈ s.Z, z ∈ wd.ks) ∧
  ∀ (F' H' : Hp), Gr [x] F H F' H' → F' x = none → HeAt K CH CS CW (upd F' x ((H' x).getD (.own 0))) x s wd → Q .non H'
theorem ok_Hearing_init {f CH CS CW : Addr} {fd : FuncData} (F : Fun K "__init__" "Hearing.__init__" s_Hearing___init__ f fd) (T : Txt mg) (TH : HeC K CH) (TS : SpC K CS) (TW_ : WaC K CW) :
    FnOk P w K mg base CX0 1 f fd ["self", "speech", "wall"] (spHeI K CH CS CW) := by
  refine F.ok sc_Hearing___init__ (fun vs H Q E h => ?_) (fun cdv A outer s H vs Q E hr h => ?_)
  · obtain ⟨F0, x, dx, sx, wx, s, wd, rfl, _⟩ := h
    rfl
  · obtain ⟨F0, x, dx, sx, wx, s, wd, rfl, hx, fx, fs, hsp, hwa, zA, zP, zL, zm, sub, q⟩ := h
    obtain ⟨⟨ds, va, vs, vp, vz, vd, hsx, hA, hS, hP, hZ⟩, oks⟩ := hsp
    obtain ⟨⟨dw, D, vs', va', kvs, hwx, hD, tl, hL⟩, okw⟩ := hwa
    have hu := hu_of hr
    refine ⟨_, (pss_cons (ps_fld (pv 0) (pv 1) rfl)
      (pss_cons (ps_fld (pv 0) (pv 2) rfl)
      (pss_cons (ps_fld (pv 0) (pe_dc (own := [("place", 3)]) rfl sc_Hearing___init__.nd (zseq K (zfld K (pv 1))) (blkOk_by (N := sc_Hearing___init__N) (sc := defScope s_Hearing___init__) (by decide +kernel)) (fun _ _ _ _ _ => (zg (i := 3) sc_Hearing___init__.nd)) (fun _ _ _ _ _ => pts_nil) (fun _ _ _ _ _ => (pv 3)) (fun _ _ _ _ _ => (pe_tup pa_nil))) rfl)
      (pss_cons (ps_fld (pv 0) (pe_dc (own := [("mark", 4)]) rfl sc_Hearing___init__.nd (zseq K (zfld K (pv 2))) (blkOk_by (N := sc_Hearing___init__N) (sc := defScope s_Hearing___init__) (by decide +kernel)) (fun _ _ _ _ _ => (zg (i := 4) sc_Hearing___init__.nd)) (fun _ _ _ _ _ => pts_nil) (fun _ _ _ _ _ => (pv 4)) (fun _ _ _ _ _ => pe_dnewK)) rfl)
      (pss_one (ps_for PassesOwn.never rfl (zseq K (zfld K (pv 1))) (zpg (n := 3) K (pgs_cons (zg (i := 3) sc_Hearing___init__.nd) (pgs_cons (zg (i := 5) sc_Hearing___init__.nd) (pgs_cons (zg (i := 6) sc_Hearing___init__.nd) pgs_nil))))
        (pss_one (ps_for PassesOwn.never rfl (zseq K (pe_dget hu (zfld K (pv 2)) (pv 5) (fun _ _ => rfl))) (zg (i := 4) sc_Hearing___init__.nd)
          (pss_one (ps_if (pt_cmpR op_eq (pv 4) pe_str (nomark _))
            (pss_one (ps_dput hu (zfld K (pv 0)) (pv 3) (pe_tup (zstar K (pe_dget hu (zfld K (pv 0)) (pv 3) (fun _ _ => rfl)) (pa_cons (pv 6) pa_nil))) rfl))
            (pss_one (ps_dput hu (pe_dget hu (zfld K (pv 0)) (pv 4) (fun _ _ => rfl)) (pv 3) (pe_tup (zstar K (pe_dget2 hu (pe_dget hu (zfld K (pv 0)) (pv 4) (fun _ _ => rfl)) (pv 3) (pe_tup pa_nil) (m2_of rfl)) (pa_cons (pv 6) pa_nil))) rfl)))))))))))), ?_⟩
    have lz : 100000 < sizeLine := by rw [sizeLine_eq]; decide
    -- speech, wall
    refine ⟨_, rfl, _, rfl, x, CH, dx, [], rfl, hx, TH.cl, TH.nS, by show 0 < 1000; decide, ?_⟩
    have g1 := (Gr.refl (B := [x]) fs).mut (o := .ins CH dx (putF "speech" (.ref sx) [])) fx (.inl (List.mem_singleton.mpr rfl))
    refine ⟨_, rfl, _, rfl, x, CH, dx, _, rfl, upd_same, TH.cl, TH.nW, by show 1 < 1000; decide, ?_⟩
    have g2 := g1.mut (o := .ins CH dx (putF "wall" (.ref wx) (putF "speech" (.ref sx) []))) fx (.inl (List.mem_singleton.mpr rfl))
    have c2 : upd (upd H x (.ins CH dx (putF "speech" (.ref sx) []))) x (.ins CH dx (putF "wall" (.ref wx) (putF "speech" (.ref sx) []))) x = some (.ins CH dx (putF "wall" (.ref wx) (putF "speech" (.ref sx) []))) := upd_same
    generalize upd (upd H x (.ins CH dx (putF "speech" (.ref sx) []))) x (.ins CH dx (putF "wall" (.ref wx) (putF "speech" (.ref sx) []))) = H2 at g2 c2 ⊢
    clear g1
    -- unheard
    refine ⟨_, rfl, sx, CS, ds, _, _, rfl, sees_i g2.fh hsx, TS.cl, TS.nP, rfl, ?_⟩
    refine seq_walk hP (.inr rfl) g2.fh fun J xs G w1 hG hxs hlen U hU => ?_
    rw [hlen, List.length_map] at w1
    refine dc_st w1 g2.fh (fun i acc F' H' => acc.map (·.1) = (s.P.take i).map Sum.inl ∧ ∀ p ∈ s.P.take i, ∃ v, valV acc (Sum.inl p) = some v ∧ Dp K F' v (.tuple [])) (fun _ _ _ _ _ h _ _ => h) (fun i acc F' H' _ gr _ => hG H' (sees_gr gr))
      ⟨rfl, by simp⟩ (by omega) (fun i acc x' F' H' H'' hi hl gr fD hDc pv y => ?_) hU fun acc F3 H3 gr fU hUc pv => ?_
    · obtain ⟨rfl, hxi⟩ := y
      obtain ⟨d, h1, h2⟩ := hxs.get hxi
      rw [List.getElem?_map] at h1
      obtain ⟨b, hb, rfl⟩ := Option.map_eq_some_iff.mp h1
      rw [dp_int] at h2
      subst h2
      refine ⟨F', Gr.refl gr.fh, turnD1 rfl fun Yes h => ⟨_, rfl, Nat.zero_le _, fun p hp => h (Sum.inl b) _ _ _ ((Gr.refl gr.fh).new hp) ?_⟩⟩
      have e1 := Ex.new (o := HO.tup []) (gr.fh.dm hp)
      have tk : s.P.take (i + 1) = s.P.take i ++ [b] := by rw [List.take_add_one, hb]; rfl
      have nb : b ∉ s.P.take i := by
        have z := (oks.asc.imp (fun h e => Int.ne_of_lt h e) : s.P.Nodup).sublist (List.take_sublist (i + 1) s.P)
        rw [tk] at z
        exact fun h => (List.nodup_append.mp z).2.2 b h b (by simp) rfl
      have vn : valV acc (Sum.inl b) = none := by
        cases e : valV acc (Sum.inl b) with
        | none => rfl
        | some v =>
          have z := valV_in e
          rw [pv.1, List.mem_map] at z
          obtain ⟨y, y1, y2⟩ := z
          cases y2
          exact absurd y1 nb
      refine ⟨by rw [putK_new _ vn, List.map_append, pv.1, tk, List.map_append]; rfl, fun p' hp' => ?_⟩
      rw [valV_put]
      by_cases e : p' = b
      · subst e
        exact ⟨.ref p, by rw [if_pos rfl], .tup (.inl (.inl upd_same)) .nil⟩
      · rw [if_neg fun z => e (Sum.inl.inj z)]
        rw [tk, List.mem_append, List.mem_singleton] at hp'
        obtain ⟨v, v1, v2⟩ := pv.2 p' (hp'.resolve_right e)
        exact ⟨v, v1, v2.ex e1⟩
    rw [List.take_length] at pv
    obtain ⟨ke, pv⟩ := pv
    have g3 := g2.trans gr (fun b hb => absurd hb (by simp))
    have nU : H U = none := g2.dm _ hU
    have xU : U ≠ x := fun e => by rw [e, hx] at nU; cases nU
    have c3 := gr.at c2
    have fx3 := gr.none' fx (by rw [c2]; exact fun z => nomatch z)
    clear gr w1 hG
    refine ⟨_, rfl, x, CH, dx, _, rfl, c3, TH.cl, TH.nU, by show 2 < 1000; decide, ?_⟩
    have g4 := g3.mut (o := .ins CH dx (putF "unheard" (.ref U) (putF "wall" (.ref wx) (putF "speech" (.ref sx) [])))) fx3 (.inl (List.mem_singleton.mpr rfl))
    have c4 : upd H3 x (.ins CH dx (putF "unheard" (.ref U) (putF "wall" (.ref wx) (putF "speech" (.ref sx) [])))) x = some (.ins CH dx (putF "unheard" (.ref U) (putF "wall" (.ref wx) (putF "speech" (.ref sx) [])))) := upd_same
    have u4 : upd H3 x (.ins CH dx (putF "unheard" (.ref U) (putF "wall" (.ref wx) (putF "speech" (.ref sx) [])))) U = some (.dK acc) := by rw [upd_ne xU]; exact hUc
    generalize upd H3 x (.ins CH dx (putF "unheard" (.ref U) (putF "wall" (.ref wx) (putF "speech" (.ref sx) [])))) = H4 at g4 c4 u4 ⊢
    clear g3 c3 hUc
    -- led
    refine ⟨_, rfl, wx, CW, dw, _, _, rfl, sees_i g4.fh (g4.ff _ _ hwx), TW_.cl, TW_.nA, rfl, ?_⟩
    refine seq_walk (hL.ex g4.ff) (.inr rfl) g4.fh fun J2 ys G2 w2 hG2 hys hlen2 L hL0 => ?_
    rw [hlen2, List.length_map] at w2
    refine dc_st w2 g4.fh (fun i acc F' H' => ∃ ad : List Addr, ad.length = i ∧ acc.map (·.1) = (wd.all.take i).map Sum.inr ∧ (∀ (j : Nat) (k : Str) (a : Addr), wd.all[j]? = some k → ad[j]? = some a → valV acc (Sum.inr k) = some (.ref a)) ∧
        (∀ a ∈ ad, H' a = some (.dK []) ∧ H4 a = none ∧ F' a = none ∧ a ≠ L) ∧ ad.Nodup) (fun i acc F' H' o ⟨ad, h1, h2, h3, h4, h5⟩ _ _ => ⟨ad, h1, h2, h3, fun a ha => ⟨by rw [upd_ne (h4 a ha).2.2.2]; exact (h4 a ha).1, (h4 a ha).2⟩, h5⟩) (fun i acc F' H' _ gr _ => hG2 H' (sees_gr gr))
      ⟨[], rfl, rfl, fun j k a _ h => by simp at h, fun a h => by simp at h, List.nodup_nil⟩ (by omega) (fun i acc x' F' H' H'' hi hl gr fD hDc ⟨ad, h1, h2, h3, h4, h5⟩ y => ?_) hL0 fun kL F5 H5 gr fL hLc ⟨ad, h1, h2, h3, h4, h5⟩ => ?_
    · obtain ⟨rfl, hxi⟩ := y
      obtain ⟨d, k1, k2⟩ := hys.get hxi
      rw [List.getElem?_map] at k1
      obtain ⟨b, hb, rfl⟩ := Option.map_eq_some_iff.mp k1
      rw [dp_str] at k2
      subst k2
      refine ⟨F', Gr.refl gr.fh, turnD1 rfl fun Yes h => ⟨_, rfl, fun p hp => h (Sum.inr b) _ _ _ ((Gr.refl gr.fh).newM hp) ?_⟩⟩
      have tk : wd.all.take (i + 1) = wd.all.take i ++ [b] := by rw [List.take_add_one, hb]; rfl
      have nb : b ∉ wd.all.take i := by
        have z := okw.an.sublist (List.take_sublist (i + 1) wd.all)
        rw [tk] at z
        exact fun h => (List.nodup_append.mp z).2.2 b h b (by simp) rfl
      have vn : valV acc (Sum.inr b) = none := by
        cases e : valV acc (Sum.inr b) with
        | none => rfl
        | some v =>
          have z := valV_in e
          rw [h2, List.mem_map] at z
          obtain ⟨y, y1, y2⟩ := z
          cases y2
          exact absurd y1 nb
      have pn : ∀ a ∈ ad, a ≠ p := fun a ha => ne_of_none (h4 a ha).1 hp
      refine ⟨ad ++ [p], by simp [h1], by rw [putK_new _ vn, List.map_append, h2, tk, List.map_append]; rfl, fun j k a hk ha => ?_, fun a ha => ?_, ?_⟩
      · rw [valV_put]
        by_cases e : k = b
        · subst e
          have ej : j = i := (List.getElem?_inj (List.getElem?_eq_some_iff.mp hk).1 okw.an).mp (hk.trans hb.symm)
          subst ej
          rw [if_pos rfl]
          rw [List.getElem?_append_right (by omega), h1, Nat.sub_self] at ha
          cases ha
          rfl
        · rw [if_neg fun z => e (Sum.inr.inj z)]
          refine h3 j k a hk ?_
          have hj := (List.getElem?_eq_some_iff.mp ha).1
          rw [List.length_append, List.length_singleton, h1] at hj
          have hj' : j ≠ i := fun z => by subst z; rw [hk] at hb; exact e (Option.some.inj hb)
          rw [List.getElem?_append_left (by omega)] at ha
          exact ha
      · rw [List.mem_append, List.mem_singleton] at ha
        rcases ha with ha | rfl
        · exact ⟨by rw [upd_ne (pn a ha)]; exact (h4 a ha).1, (h4 a ha).2⟩
        · exact ⟨upd_same, gr.dm _ hp, gr.fh.dm hp, Ne.symm (ne_of_none hDc hp)⟩
      · rw [List.nodup_append]
        exact ⟨h5, by simp, fun a ha b hb => by rw [List.mem_singleton.mp hb]; exact pn a ha⟩
    rw [List.take_length] at h2
    have nL : H L = none := g4.dm _ hL0
    have xL : L ≠ x := fun e => by rw [e, hx] at nL; cases nL
    have UL : U ≠ L := ne_of_none u4 hL0
    have g5 := (g4.trans gr (fun b hb => absurd hb (by simp)))
    have c5 := gr.at c4
    have u5 := gr.at u4
    have fx5 := gr.none' fx3 (by rw [c4]; exact fun z => nomatch z)
    have fU5 := gr.none' fU (by rw [u4]; exact fun z => nomatch z)
    have e5 := gr.ff
    have h6 : ∀ a ∈ ad, H5 a = some (.dK []) ∧ H a = none ∧ F5 a = none ∧ a ≠ L ∧ a ≠ x ∧ a ≠ U := fun a ha => ⟨(h4 a ha).1, g4.dm _ (h4 a ha).2.1, (h4 a ha).2.2.1, (h4 a ha).2.2.2, Ne.symm (ne_of_none c4 (h4 a ha).2.1), Ne.symm (ne_of_none u4 (h4 a ha).2.1)⟩
    clear h4 gr g4 c4 u4 w2 hG2
    refine ⟨_, rfl, x, CH, dx, _, rfl, c5, TH.cl, TH.nL, by show 3 < 1000; decide, ?_⟩
    have g6 := (g5.done nL fL hLc).mut (o := .ins CH dx (heF (.ref sx) (.ref wx) (.ref U) (.ref L))) (p := x) (by rw [upd_ne (Ne.symm xL)]; exact fx5) (.inl (List.mem_singleton.mpr rfl))
    have e6 : Ex F3 (upd F5 L (.dK kL)) := e5.trans (Ex.new fL)
    have c6 : upd H5 x (.ins CH dx (heF (.ref sx) (.ref wx) (.ref U) (.ref L))) x = some (.ins CH dx (heF (.ref sx) (.ref wx) (.ref U) (.ref L))) := upd_same
    have u6 : upd H5 x (.ins CH dx (heF (.ref sx) (.ref wx) (.ref U) (.ref L))) U = some (.dK acc) := by rw [upd_ne xU]; exact u5
    have l6 : upd F5 L (.dK kL) L = some (.dK kL) := upd_same
    have fx6 : upd F5 L (.dK kL) x = none := by rw [upd_ne (Ne.symm xL)]; exact fx5
    have fU6 : upd F5 L (.dK kL) U = none := by rw [upd_ne UL]; exact fU5
    have h7 : ∀ a ∈ ad, upd H5 x (.ins CH dx (heF (.ref sx) (.ref wx) (.ref U) (.ref L))) a = some (.dK []) ∧ H a = none ∧ upd F5 L (.dK kL) a = none ∧ a ≠ x ∧ a ≠ U := fun a ha => by
      obtain ⟨q1, q2, q3, q4, q5, q6⟩ := h6 a ha
      exact ⟨by rw [upd_ne q5]; exact q1, q2, by rw [upd_ne q4]; exact q3, q5, q6⟩
    generalize upd H5 x (.ins CH dx (putF "led" (.ref L) (putF "unheard" (.ref U) (putF "wall" (.ref wx) (putF "speech" (.ref sx) []))))) = H6 at g6 c6 u6 h7 ⊢
    generalize upd F5 L (.dK kL) = F6 at g6 e6 l6 fx6 fU6 h7
    clear h6 g5 c5 u5 fx5 fU5 e5 hLc
    have nUad : U ∉ ad := fun h => (h7 U h).2.2.2.2 rfl
    have nEm : ("" : Str) ∉ wd.all := fun h => ((okw.al _).mp h).1 rfl
    have lP : acc.length = s.P.length := by
      have z := congrArg List.length ke
      rwa [List.length_map, List.length_map] at z
    have h0 : HInv K U s.P wd.all ad [] F6 H6 := ⟨⟨acc, u6, by simp; omega, fun p hp => by
        obtain ⟨v, v1, v2⟩ := pv p hp
        exact ⟨v, [], v1, v2.ex e6, Nat.zero_le _, by simp⟩⟩, fun j k a hk ha => ⟨[], (h7 a (List.mem_of_getElem? ha)).1, Nat.zero_le _, fun p => ⟨[], .inl ⟨rfl, rfl⟩, Nat.zero_le _, by simp⟩⟩⟩
    have eA : Ex F0 F6 := g6.ff
    have hxB : x ∉ U :: ad := fun h => by
      rcases List.mem_cons.mp h with h | h
      · exact xU h.symm
      · exact (h7 x h).2.2.2.1 rfl
    have fB : ∀ a ∈ U :: ad, F6 a = none ∧ H a = none ∧ H6 a ≠ none := fun a h => by
      rcases List.mem_cons.mp h with rfl | h
      · exact ⟨fU6, nU, by rw [u6]; exact fun z => nomatch z⟩
      · exact ⟨(h7 a h).2.2.1, (h7 a h).2.1, by rw [(h7 a h).1]; exact fun z => nomatch z⟩
    clear pv u6 fU6 h7
    -- the arrows
    refine ⟨_, rfl, sx, CS, ds, _, _, rfl, sees_i g6.fh (eA _ _ hsx), TS.cl, TS.nA, rfl, ?_⟩
    refine seq_walk (hA.ex eA) (.inr rfl) g6.fh fun J3 zs G3 w3 hG3 hzs hlen3 => ?_
    rw [hlen3, List.length_map] at w3
    refine for_it w3 (fun i σ' H' => ∃ (o3 o4 o5 o6 : Option V) (F' : Hp), σ' = [some (.ref x), some (.ref sx), some (.ref wx), o3, o4, o5, o6] ∧ Gr (U :: ad) F6 H6 F' H' ∧ HInv K U s.P wd.all ad (trip wd.m (s.A.take i)) F' H')
      ⟨none, none, none, none, F6, rfl, Gr.refl g6.fh, by rw [List.take_zero]; exact h0⟩ (fun i σ' H' _ ⟨_, _, _, _, F', _, g, _⟩ => hG3 H' (fun a o e => g.fh a o (g.ff a o e))) ?_ ?_
    · rintro i y σ' H' H'' hi ⟨o3, o4, o5, o6, F', rfl, g, iv⟩ ⟨rfl, hyi⟩
      obtain ⟨d, k1, k2⟩ := hzs.get hyi
      rw [List.getElem?_map] at k1
      obtain ⟨⟨p, z, r⟩, hb, rfl⟩ := Option.map_eq_some_iff.mp k1
      obtain ⟨T1, xs1, rfl, hT, hx1⟩ := dp_tup (k2.ex g.ff)
      obtain rfl := dps3 hx1
      have am : (p, z, r) ∈ s.A := List.mem_of_getElem? hb
      have pP : p ∈ s.P := (oks.pl p).mpr (.inr (.inl ⟨_, am, rfl⟩))
      have zk : z ∈ wd.ks := sub z ((oks.so z).mpr ⟨_, am, rfl⟩)
      have m6 := zm z zk
      have tl0 : (trip wd.m (s.A.take i)).length ≤ 12000 := by
        have z1 := trip_len (m := wd.m) (A := s.A.take i) fun b hb => zm _ (sub _ ((oks.so _).mpr ⟨b, List.mem_of_mem_take hb, rfl⟩))
        rw [List.length_take] at z1
        omega
      have tS : trip wd.m (s.A.take (i + 1)) = trip wd.m (s.A.take i) ++ (wd.m z).map fun k => (p, k, r) := by
        rw [List.take_add_one, hb]
        exact trip_snoc
      have sF : Sees F' H'' := g.fh
      have gh : ∀ {a : Addr} {o : HO}, F6 a = some o → F' a = some o := fun e => g.ff _ _ e
      refine ⟨T1, _, rfl, sees_t sF hT, rfl, _, _, rfl, _, _, rfl, _, _, rfl, rfl, ?_⟩
      obtain ⟨v', v1, v2⟩ := tl.va z zk
      refine ⟨_, rfl, wx, CW, dw, _, _, rfl, sees_i sF (gh (eA _ _ hwx)), TW_.cl, TW_.nM, rfl, _, rfl, D, v', rfl, .inl ⟨kvs, Sum.inr z, sees_d sF (gh (eA _ _ hD)), rfl, v1.symm⟩, ?_⟩
      refine seq_walk ((v2.ex eA).ex g.ff) (.inr rfl) sF fun J4 us G4 w4 hG4 hus hlen4 => ?_
      rw [hlen4, List.length_map] at w4
      refine for_it w4 (fun j σ' H2 => ∃ (o4 : Option V) (F2 : Hp), σ' = [some (.ref x), some (.ref sx), some (.ref wx), some (.int p), o4, some (.str z), some (.int r)] ∧ Gr (U :: ad) F' H'' F2 H2 ∧ HInv K U s.P wd.all ad (trip wd.m (s.A.take i) ++ ((wd.m z).take j).map fun k => (p, k, r)) F2 H2)
        ⟨o4, F', rfl, Gr.refl sF, by simpa using iv⟩ (fun j σ' H2 _ ⟨_, F2, _, g2, _⟩ => hG4 H2 (fun a o e => g2.fh a o (g2.ff a o e))) ?_ ?_
      · rintro j y σ' H2 H2' hj ⟨o4, F2, rfl, g2, iv2⟩ ⟨rfl, hyj⟩
        obtain ⟨d, q1, q2⟩ := hus.get hyj
        rw [List.getElem?_map] at q1
        obtain ⟨k, hk, rfl⟩ := Option.map_eq_some_iff.mp q1
        rw [dp_str] at q2
        subst q2
        have tk : ((wd.m z).take (j + 1)).map (fun k => (p, k, r)) = ((wd.m z).take j).map (fun k => (p, k, r)) ++ [(p, k, r)] := by rw [List.take_add_one, hk, List.map_append]; rfl
        rw [tk, ← List.append_assoc]
        have tl1 : (trip wd.m (s.A.take i) ++ ((wd.m z).take j).map fun k => (p, k, r)).length ≤ 12010 := by
          rw [List.length_append, List.length_map, List.length_take]
          omega
        generalize trip wd.m (s.A.take i) ++ ((wd.m z).take j).map (fun k => (p, k, r)) = tr at iv2 tl1 ⊢
        have gg := g.trans g2 (fun b hb => .inl hb)
        have cx := gg.hh x _ hxB c6
        refine ⟨_, rfl, rfl, _, rfl, ?_⟩
        by_cases e : k = ""
        · subst e
          refine iteYes (decide_eq_true rfl) ?_
          obtain ⟨kU, hU', lU, cU⟩ := iv2.u
          obtain ⟨v, l, y1, y2, y3, y4⟩ := cU p pP
          obtain ⟨po, xo, rfl, hso, hxo⟩ := dp_tup y2
          have lxo : xo.length ≤ 12010 := by rw [hxo.length, List.length_map]; omega
          refine ⟨_, rfl, x, CH, dx, _, _, rfl, cx, TH.cl, TH.nU, rfl, _, rfl, U, .ref po, rfl, .inl ⟨kU, Sum.inl p, .inl hU', rfl, y1.symm⟩, ?_⟩
          refine ⟨po, xo, rfl, .inl (sees_t g2.fh hso), _, rfl, by simp; omega, fun t1 ht1 => ?_⟩
          have gc := g2.new (o := .tup (xo ++ [.int r])) ht1
          have e1 := Ex.new (o := HO.tup (xo ++ [.int r])) (g2.fh.dm ht1)
          refine ⟨_, rfl, x, CH, dx, _, _, rfl, by rw [upd_ne (ne_of_none cx ht1)]; exact cx, TH.cl, TH.nU, rfl, _, rfl, U, _, rfl, DPut.k (k := Sum.inl p) (by rw [upd_ne (ne_of_none hU' ht1)]; exact hU') (by omega), ?_⟩
          have fU2 := gg.none' (fB U List.mem_cons_self).1 (fB U List.mem_cons_self).2.2
          refine ⟨_, _, rfl, gc.mut (by rw [upd_ne (ne_of_none hU' ht1)]; exact fU2) (.inl List.mem_cons_self), ?_⟩
          exact ((iv2.ex e1).heap fun a o _ ha => by rw [upd_ne (ne_of_none ha ht1)]; exact ha).putU (by rw [upd_ne (ne_of_none hU' ht1)]; exact hU') y3 y4 (.tup (.inl (.inl upd_same)) (by rw [List.map_append]; exact (hxo.append (.cons (.int _) .nil)).ex e1)) nUad nEm
        · refine iteNo (by rw [decide_eq_true_eq]; exact fun q => e (V.str.inj q)) ?_
          obtain ⟨j', hk'⟩ := List.mem_iff_getElem?.mp ((okw.al k).mpr ⟨e, z, zk, List.mem_of_getElem? hk⟩)
          have hj' : j' < ad.length := by rw [h1]; exact (List.getElem?_eq_some_iff.mp hk').1
          obtain ⟨a, ha'⟩ : ∃ a, ad[j']? = some a := ⟨_, List.getElem?_eq_getElem hj'⟩
          have haB : a ∈ U :: ad := List.mem_cons_of_mem _ (List.mem_of_getElem? ha')
          obtain ⟨kD, hDa, lD, cD⟩ := iv2.d j' k a hk' ha'
          obtain ⟨l, y1, y3, y4⟩ := cD p
          have vL := h3 j' k a hk' ha'
          have rL : ∀ {F2 H2 : Hp}, Gr (U :: ad) F6 H6 F2 H2 → Rd H2 L (.dK kL) := fun g => sees_d (fun a o e => g.fh a o e) (g.ff _ _ l6)
          refine ⟨_, rfl, x, CH, dx, _, _, rfl, cx, TH.cl, TH.nL, rfl, _, rfl, L, .ref a, rfl, .inl ⟨kL, Sum.inr k, rL gg, rfl, vL.symm⟩, ?_⟩
          refine ⟨a, rfl, .inl ⟨kD, .inl hDa⟩, _, rfl, Nat.zero_le _, fun t0 ht0 => ⟨_, DGet.k (k := Sum.inl p) (by rw [upd_ne (ne_of_none hDa ht0)]; exact hDa), ?_⟩⟩
          have ga := g2.new (o := .tup []) ht0
          have gga := gg.new (o := .tup []) ht0
          have e0 := Ex.new (o := HO.tup []) (g2.fh.dm ht0)
          have iv3 := (iv2.ex e0).heap (H' := upd H2' t0 (.tup [])) fun a o _ ha => by rw [upd_ne (ne_of_none ha ht0)]; exact ha
          have hDb : upd H2' t0 (.tup []) a = some (.dK kD) := by rw [upd_ne (ne_of_none hDa ht0)]; exact hDa
          have cxb := gga.hh x _ hxB c6
          have ho : Dp K (upd F2 t0 (.tup [])) ((valV kD (Sum.inl p)).getD (.ref t0)) (.tuple (l.map .int)) := by
            rcases y1 with ⟨y1, rfl⟩ | ⟨v, y1, y2⟩
            · rw [y1]
              exact .tup (.inl (.inl upd_same)) .nil
            · rw [y1]
              exact y2.ex e0
          generalize (valV kD (Sum.inl p)).getD (.ref t0) = vo at ho ⊢
          generalize upd H2' t0 (.tup []) = Hb at ga gga hDb cxb iv3 ⊢
          generalize upd F2 t0 (.tup []) = Fb at ga gga iv3 ho
          clear g2 gg iv2 hDa cD y1 cx
          obtain ⟨po, xo, rfl, hso, hxo⟩ := dp_tup ho
          have lxo : xo.length ≤ 12010 := by rw [hxo.length, List.length_map]; omega
          refine ⟨po, xo, rfl, .inl (sees_t ga.fh hso), _, rfl, by simp; omega, fun t1 ht1 => ?_⟩
          have gc := ga.new (o := .tup (xo ++ [.int r])) ht1
          have ggc := gga.new (o := .tup (xo ++ [.int r])) ht1
          have e1 := Ex.new (o := HO.tup (xo ++ [.int r])) (ga.fh.dm ht1)
          refine ⟨_, rfl, x, CH, dx, _, _, rfl, by rw [upd_ne (ne_of_none cxb ht1)]; exact cxb, TH.cl, TH.nL, rfl, _, rfl, L, .ref a, rfl, .inl ⟨kL, Sum.inr k, rL ggc, rfl, vL.symm⟩, ?_⟩
          refine ⟨_, rfl, a, _, rfl, DPut.k (k := Sum.inl p) (by rw [upd_ne (ne_of_none hDb ht1)]; exact hDb) (by omega), ?_⟩
          have fa2 := gga.none' (fB a haB).1 (fB a haB).2.2
          refine ⟨_, _, rfl, gc.mut (by rw [upd_ne (ne_of_none hDb ht1)]; exact fa2) (.inl haB), ?_⟩
          exact ((iv3.ex e1).heap fun a o _ ha => by rw [upd_ne (ne_of_none ha ht1)]; exact ha).putD hk' ha' (by rw [upd_ne (ne_of_none hDb ht1)]; exact hDb) y3 y4 (.tup (.inl (.inl upd_same)) (by rw [List.map_append]; exact (hxo.append (.cons (.int _) .nil)).ex e1)) nUad h5 okw.an e
      · rintro σ' H2 ⟨o4, F2, rfl, g2, iv2⟩
        rw [List.take_length] at iv2
        exact ⟨_, _, _, _, F2, rfl, g.trans g2 (fun b hb => .inl hb), by rw [tS]; exact iv2⟩
    · rintro σ' H' ⟨o3, o4, o5, o6, F', rfl, g, iv⟩
      rw [List.take_length] at iv
      have gT := g6.trans g (fun b hb => .inr (fB b hb).2.1)
      have cx := g.hh x _ hxB c6
      have fxx := g.none' fx6 (by rw [c6]; exact fun z => nomatch z)
      obtain ⟨F2, q1, q2, q3, q4⟩ := Gr.freeze (U :: ad) gT fun b hb => ⟨(fB b hb).2.1, .inl (g.none' (fB b hb).1 (fB b hb).2.2), fun z => (fB b hb).2.2 (g.dm b z)⟩
      have fx2 : F2 x = none := by rw [q4 x hxB]; exact fxx
      refine q F2 H' q1 fx2 ?_
      rw [cx, Option.getD_some]
      have eN := Ex.new (o := HO.ins CH dx (heF (.ref sx) (.ref wx) (.ref U) (.ref L))) fx2
      have eT := q2.trans eN
      have e0 := eA.trans (g.ff.trans eT)
      refine ⟨dx, sx, wx, U, L, ad, kL, upd_same, SpAt.ex' ⟨⟨ds, va, vs, vp, vz, vd, hsx, hA, hS, hP, hZ⟩, oks⟩ e0, WaAt.ex' ⟨⟨dw, D, vs', va', kvs, hwx, hD, tl, hL⟩, okw⟩ e0, eT _ _ (g.ff _ _ l6), h2, h3, h1, _, (iv.ex eT).heap (fun a o ha h => ?_), fun t => Iff.rfl⟩
      have hax : a ≠ x := fun e => hxB (by rw [← e]; exact ha)
      rw [upd_ne hax, q3 a ha]
      exact h
end
end TW
set_option Elab.async false
set_option linter.all false
set_option maxRecDepth 100000
set_option maxHeartbeats 8000000
/-! what a neighbour knows -/
namespace TW
open PySem PySem.Spec PyProof.Rows L2 RZ StX
open Evl (Ex)
/-- where unheard arrows lead to from S -/
inductive Reach (R : List (Int × Str × Int)) (S : List Int) : Int → Prop
  | base {k : Int} (h : k ∈ S) : Reach R S k
  | step {p q : Int} (h : Reach R S p) (e : (p, ("" : Str), q) ∈ R) : Reach R S q
theorem SpD.Ok.asc' {s : SpD} (h : s.Ok) : s.P.Nodup := h.asc.imp (fun h e => Int.ne_of_lt h e)
theorem SpD.Ok.to {s : SpD} (h : s.Ok) {m : Str → List Str} {p q : Int} {k : Str} (e : (p, k, q) ∈ trip m s.A) : q ∈ s.P := by
  obtain ⟨z, h1, _⟩ := mem_trip.mp e
  exact (h.pl q).mpr (.inr (.inr ⟨_, h1, rfl⟩))
/-- what a Hearing is for its readers -/
theorem HeAt.un {K : PySem.W.Frag} {CH CS CW : Addr} {F : Hp} {x : Addr} {s : SpD} {wd : WaD} (h : HeAt K CH CS CW F x s wd) : ∃ dx sx wx U L kU kL, F x = some (.ins CH dx (heF (.ref sx) (.ref wx) (.ref U) (.ref L))) ∧ SpAt K CS F sx s ∧ WaAt K CW F wx wd ∧ F U = some (.dK kU) ∧ F L = some (.dK kL) ∧
    (∀ p ∈ s.P, ∃ (v : V) (l : List Int), valV kU (Sum.inl p) = some v ∧ Dp K F v (.tuple (l.map .int)) ∧ ∀ q, q ∈ l ↔ (p, ("" : Str), q) ∈ trip wd.m s.A) ∧
    ∀ k ∈ wd.all, ∃ a kD, valV kL (Sum.inr k) = some (.ref a) ∧ F a = some (.dK kD) ∧ ∀ p, ∃ l : List Int, Holds K F kD p l ∧ ∀ q, q ∈ l ↔ (p, k, q) ∈ trip wd.m s.A := by
  obtain ⟨dx, sx, wx, U, L, ad, kL, h1, h2, h3, h4, h5, h6, h7, tr, ⟨⟨kU, u1, u2, u3⟩, hd⟩, ht⟩ := h
  refine ⟨dx, sx, wx, U, L, kU, kL, h1, h2, h3, u1, h4, fun p hp => ?_, fun k hk => ?_⟩
  · obtain ⟨v, l, q1, q2, q3, q4⟩ := u3 p hp
    exact ⟨v, l, q1, q2, fun q => (q4 q).trans (ht _)⟩
  · obtain ⟨j, hj⟩ := List.mem_iff_getElem?.mp hk
    have hj' : j < ad.length := by rw [h7]; exact (List.getElem?_eq_some_iff.mp hj).1
    obtain ⟨kD, q1, q2, q3⟩ := hd j k _ hj (List.getElem?_eq_getElem hj')
    refine ⟨_, kD, h6 j k _ hj (List.getElem?_eq_getElem hj'), q1, fun p => ?_⟩
    obtain ⟨l, r1, r2, r3⟩ := q3 p
    exact ⟨l, r1, fun q => (r3 q).trans (ht _)⟩
theorem HeAt.ex' {K : PySem.W.Frag} {CH CS CW : Addr} {F F' : Hp} {x : Addr} {s : SpD} {wd : WaD} (h : HeAt K CH CS CW F x s wd) (e : Ex F F') : HeAt K CH CS CW F' x s wd := by
  obtain ⟨dx, sx, wx, U, L, ad, kL, h1, h2, h3, h4, h5, h6, h7, tr, hi, ht⟩ := h
  exact ⟨dx, sx, wx, U, L, ad, kL, e _ _ h1, h2.ex' e, h3.ex' e, e _ _ h4, h5, h6, h7, tr, (hi.ex e).heap fun a o _ q => e _ _ q, ht⟩
/-- the walk of closed: ks found, ln in line -/
structure CInv (R : List (Int × Str × Int)) (P S : List Int) (D L : Addr) (ks ln : List Int) (H : Hp) : Prop where
  hd : ∃ kvs, H D = some (.dK kvs) ∧ kvs.map (·.1) = ks.map Sum.inl
  hl : H L = some (.lst (ln.map V.int))
  nd : ks.Nodup
  kp : ∀ z ∈ ks, z ∈ P ∧ Reach R S z
  sk : ∀ z ∈ S, z ∈ ks
  lk : ∀ z ∈ ln, z ∈ ks
theorem kv_none {kvs : List (Key × V)} {ks : List Int} {b : Int} (h : kvs.map (·.1) = ks.map Sum.inl) (n : b ∉ ks) : valV kvs (Sum.inl b) = none := by
  cases e : valV kvs (Sum.inl b) with
  | none => rfl
  | some v =>
    have z := valV_in e
    rw [h, List.mem_map] at z
    obtain ⟨y, y1, y2⟩ := z
    cases y2
    exact absurd y1 n
theorem kv_some {kvs : List (Key × V)} {ks : List Int} {b : Int} (h : kvs.map (·.1) = ks.map Sum.inl) (n : b ∈ ks) : (valV kvs (Sum.inl b)).isSome = true := by
  cases e : valV kvs (Sum.inl b) with
  | some v => rfl
  | none =>
    refine absurd ?_ (valV_not e)
    rw [h]
    exact List.mem_map.mpr ⟨b, n, rfl⟩
theorem kv_put {kvs : List (Key × V)} {ks : List Int} {b : Int} {v : V} (h : kvs.map (·.1) = ks.map Sum.inl) (n : b ∉ ks) : (putK kvs (Sum.inl b) v).map (·.1) = (ks ++ [b]).map Sum.inl := by
  rw [putK_new _ (kv_none h n), List.map_append, h, List.map_append]
  rfl
theorem kv_len {kvs : List (Key × V)} {ks : List Int} (h : kvs.map (·.1) = ks.map Sum.inl) : kvs.length = ks.length := by
  have z := congrArg List.length h
  rwa [List.length_map, List.length_map] at z
theorem kv_old {kvs : List (Key × V)} {ks : List Int} {b : Int} {v : V} (h : kvs.map (·.1) = ks.map Sum.inl) (n : b ∈ ks) : (putK kvs (Sum.inl b) v).map (·.1) = ks.map Sum.inl := by
  have e := valV_any (Sum.inl b : Key) kvs
  rw [kv_some h n] at e
  unfold putK
  rw [if_pos e, List.map_map, ← h]
  refine List.map_congr_left fun p _ => ?_
  show (if p.1 = Sum.inl b then (p.1, v) else p).1 = p.1
  split <;> rfl
def spBehind (K : PySem.W.Frag) (CH CS CW : Addr) : Sp := fun vs H Q _ => ∃ (F : Hp) (x : Addr) (v : V) (d : PyData) (S : List Int) (k : Str) (s : SpD) (wd : WaD), vs = [.ref x, v, .str k] ∧ Sees F H ∧ HeAt K CH CS CW F x s wd ∧ Dp K F v d ∧ isSeq d (S.map .int) ∧ k ∈ wd.all ∧ s.P.length < 64 ∧
  ∀ (r : V) (ns T : List Int) (F' H' : Hp), Gr [] F H F' H' → Dp K F' r (.tuple (ns.map .int)) → ns.Pairwise (· < ·) → (∀ z, z ∈ T ↔ ∃ p ∈ S, (p, k, z) ∈ trip wd.m s.A) → (∀ q, q ∈ ns ↔ Reach (trip wd.m s.A) T q) → Q r H'
def spBegun (K : PySem.W.Frag) (CH CS CW : Addr) : Sp := fun vs H Q _ => ∃ (F : Hp) (x : Addr) (s : SpD) (wd : WaD), vs = [.ref x] ∧ Sees F H ∧ HeAt K CH CS CW F x s wd ∧ s.S.Nodup ∧ s.P.length < 64 ∧
  ∀ (r : V) (ns : List Int) (F' H' : Hp), Gr [] F H F' H' → Dp K F' r (.tuple (ns.map .int)) → ns.Pairwise (· < ·) → (∀ q, q ∈ ns ↔ Reach (trip wd.m s.A) s.S q) → Q r H'
def spClosed (K : PySem.W.Frag) (CH CS CW : Addr) : Sp := fun vs H Q _ => ∃ (F : Hp) (x : Addr) (v : V) (d : PyData) (S : List Int) (s : SpD) (wd : WaD), vs = [.ref x, v] ∧ Sees F H ∧ HeAt K CH CS CW F x s wd ∧ Dp K F v d ∧ isSeq d (S.map .int) ∧ (∀ z ∈ S, z ∈ s.P) ∧ S.Nodup ∧ s.P.length < 64 ∧
  ∀ (r : V) (ns : List Int) (F' H' : Hp), Gr [] F H F' H' → Dp K F' r (.tuple (ns.map .int)) → ns.Pairwise (· < ·) → (∀ k, k ∈ ns ↔ Reach (trip wd.m s.A) S k) → Q r H'
section
variable {P : Program} {w : World} {K : PySem.W.Frag} {mg : Str → Option Value} {base : Heap}
theorem ok_closed {f CH CS CW : Addr} {fd : FuncData} (F : Fun K "closed" "Hearing.closed" s_Hearing_closed f fd) (T : Txt mg) (TH : HeC K CH) : FnOk P w K mg base CX0 1 f fd ["self", "places"] (spClosed K CH CS CW) := by
  refine F.ok sc_Hearing_closed (fun vs H Q E h => ?_) (fun cdv A outer s H vs Q E hr h => ?_)
  · obtain ⟨F0, x, v, d, S, s, wd, rfl, _⟩ := h
    rfl
  · obtain ⟨F0, x, v, d, S, s, wd, rfl, fs, he, hv, hq, sub, ndS, zP, q⟩ := h
    obtain ⟨dx, sx, wx, U, L, kU, kL, hx, hsp, hwa, hU, hL, un, _⟩ := he.un
    have oks := hsp.ok
    have hu := hu_of hr
    refine ⟨_, (pss_cons (zpar (i := 2) (j := 3) sc_Hearing_closed.nd (pa_cons (pe_dc (own := [("place", 4)]) rfl sc_Hearing_closed.nd (zseq K (pv 1)) (blkOk_by (N := sc_Hearing_closedN) (sc := defScope s_Hearing_closed) (by decide +kernel)) (fun _ _ _ _ _ => (zg (i := 4) sc_Hearing_closed.nd)) (fun _ _ _ _ _ => pts_nil) (fun _ _ _ _ _ => (pv 4)) (fun _ _ _ _ _ => pe_bl)) (pa_cons (pe_callTy (cr_list K) (by rfl) T.list bt_list (pa_cons (pv 1) pa_nil)) pa_nil)))
      (pss_cons (ps_while PassesOwn.never (ztruth K (pv 3))
        (pss_one (ps_for PassesOwn.never rfl (zseq K (pe_dget hu (zfld K (pv 0)) (pe_bm0 PySem.F.plainAttrs_list PySem.F.slot_list_pop PySem.F.type_list_pop mt_pop (pv 3)) (fun _ _ => rfl))) (zg (i := 5) sc_Hearing_closed.nd)
          (pss_one (ps_if (pt_cmp (pc_dnotin hu (pv 5) (pv 2)))
            (pss_cons (ps_dput hu (pv 2) (pv 5) pe_bl rfl)
            (pss_one (ps_expr (pe_bm PySem.F.plainAttrs_list PySem.F.slot_list_append PySem.F.type_list_append mt_append (pv 3) (pa_cons (pv 5) pa_nil)))))
            pss_nil)))))
      (pss_one (ps_ret (pe_callTy (cr_tuple K) (by rfl) T.tuple bt_tuple (pa_cons (pe_callB (call_sortedDI rfl) (by rfl) T.sorted bt_sorted (pa_cons (pv 2) pa_nil)) pa_nil)))))), ?_⟩
    have lz : 100000 < sizeLine := by rw [sizeLine_eq]; decide
    have lS : S.length ≤ s.P.length := nodup_le ndS sub
    -- found
    refine ⟨_, rfl, seq_walk hv hq fs fun J xs G w1 hG hxs hlen D hD => ?_⟩
    rw [hlen, List.length_map] at w1
    refine dc_st w1 fs (fun i acc F' H' => acc.map (·.1) = (S.take i).map Sum.inl) (fun _ _ _ _ _ h _ _ => h) (fun i acc F' H' _ gr _ => hG H' (sees_gr gr))
      rfl (by omega) (fun i acc x' F' H' H'' hi hl gr fD hDc pv y => ?_) hD fun acc F1 H1 g1 fD hDc pv => ?_
    · obtain ⟨rfl, hxi⟩ := y
      obtain ⟨d, h1, h2⟩ := hxs.get hxi
      rw [List.getElem?_map] at h1
      obtain ⟨b, hb, rfl⟩ := Option.map_eq_some_iff.mp h1
      rw [dp_int] at h2
      subst h2
      refine ⟨F', Gr.refl gr.fh, turnD1 rfl fun Yes h => ⟨_, rfl, h (Sum.inl b) _ _ _ (Gr.refl gr.fh) ?_⟩⟩
      have tk : S.take (i + 1) = S.take i ++ [b] := by rw [List.take_add_one, hb]; rfl
      rw [tk]
      refine kv_put pv fun hb' => ?_
      have z := ndS.sublist (List.take_sublist (i + 1) S)
      rw [tk] at z
      exact (List.nodup_append.mp z).2.2 b hb' b (by simp) rfl
    rw [List.take_length] at pv
    -- line
    refine ⟨_, rfl, list_dp (hv.ex g1.ff) hq g1.fh fun Ln ys F2 H2 g2 nL fL1 hL2 hys => ?_⟩
    rw [dps_int] at hys
    subst hys
    have gT := g1.trans g2
    have nL0 : H Ln = none := g1.dm _ nL
    have hD2 := g2.at hDc
    have fD2 := g2.none' fD (by rw [hDc]; exact fun z => nomatch z)
    have hDL : D ≠ Ln := ne_of_none hDc nL
    have e2 : Ex F0 F2 := gT.ff
    clear g1 g2 w1 hG hDc fD nL
    refine ⟨_, _, rfl, ?_⟩
    refine ⟨fun m σ' H' => ∃ (o4 o5 : Option V) (F' : Hp) (ks ln : List Int), σ' = [some (.ref x), some v, some (.ref D), some (.ref Ln), o4, o5] ∧ Gr [D, Ln] F2 H2 F' H' ∧ F' D = none ∧ F' Ln = none ∧ CInv (trip wd.m s.A) s.P S D Ln ks ln H' ∧
        (∀ p ∈ ks, p ∉ ln → ∀ q, (p, ("" : Str), q) ∈ trip wd.m s.A → q ∈ ks) ∧ m = 2 * (s.P.length - ks.length) + ln.length ∧ m ≤ 200,
      ⟨_, none, none, F2, S, S, rfl, Gr.refl gT.fh, fD2, fL1, ⟨⟨acc, hD2, pv⟩, hL2, ndS, fun z hz => ⟨sub z hz, .base hz⟩, fun z hz => hz, fun z hz => hz⟩, fun p hp hn => absurd hp hn, rfl, by omega⟩, ?_⟩
    rintro m σ' H' ⟨o4, o5, F', ks, ln, rfl, g, fD', fL', ci, cl, em, m2⟩
    refine ⟨_, rfl, _, .inl ⟨_, .inl (.inl ci.hl), rfl⟩, ?_⟩
    by_cases hln : ln = []
    · -- all is found
      subst hln
      refine iteNo (by simp) ?_
      obtain ⟨kvs, hkv, hke⟩ := ci.hd
      have gg := gT.trans g (fun b hb => .inr (by
        rcases List.mem_cons.mp hb with rfl | hb
        · exact hD
        · rw [List.mem_singleton.mp hb]; exact nL0))
      have lks : ks.length ≤ s.P.length := nodup_le ci.nd fun z hz => (ci.kp z hz).1
      refine ⟨_, rfl, D, kvs, ks, rfl, .inl hkv, hke, by omega, fun ys p pm pw hp => ?_⟩
      refine .mk ⟨p, _, rfl, .inl ⟨.inl (.inl upd_same), fun t ht => ?_⟩⟩
      have gE := (gg.newM (o := .lst (ys.map V.int)) hp).new (o := .tup (ys.map V.int)) ht
      refine q (.ref t) ys _ _ gE (.tup (.inl (.inl upd_same)) (dps_int.mpr rfl)) ?_ fun k => ?_
      · have nd := pm.nodup_iff.mpr ci.nd
        exact (pw.and nd).imp fun {a b} h => by have := h.1; have := h.2; omega
      · rw [pm.mem_iff]
        refine ⟨fun h => (ci.kp k h).2, fun h => ?_⟩
        induction h with
        | base h => exact ci.sk _ h
        | step h e ih => exact cl _ ih (by simp) _ e
    · refine iteYes (by cases ln with | nil => exact absurd rfl hln | cons a b => rfl) ?_
      obtain ⟨ln', p0, rfl⟩ : ∃ ln' p0, ln = ln' ++ [p0] := ⟨ln.dropLast, ln.getLast hln, (List.dropLast_concat_getLast hln).symm⟩
      refine ⟨_, fun σ' H' h => h, ?_⟩
      have p0k : p0 ∈ ks := ci.lk p0 (by simp)
      obtain ⟨v', l, v1, v2, v3⟩ := un p0 (ci.kp p0 p0k).1
      have g' := g.mut (o := .lst (ln'.map V.int)) fL' (.inl (by simp))
      have el : ((ln' ++ [p0]).map V.int).dropLast = ln'.map V.int := by rw [List.map_append]; simp
      refine ⟨_, rfl, x, CH, dx, _, _, rfl, sees_i g.fh (g.ff _ _ (e2 _ _ hx)), TH.cl, TH.nU, rfl, _, rfl, .inl ⟨rfl, _, .inl (.inl ci.hl)⟩, Ln, _, .int p0, rfl, rfl, ci.hl, by simp, ?_⟩
      rw [el]
      refine ⟨U, v', rfl, .inl ⟨kU, Sum.inl p0, sees_d g'.fh (g.ff _ _ (e2 _ _ hU)), rfl, v1.symm⟩, ?_⟩
      have ci' : CInv (trip wd.m s.A) s.P S D Ln ks ln' (upd H' Ln (.lst (ln'.map V.int))) := by
        obtain ⟨kvs, hkv, hke⟩ := ci.hd
        exact ⟨⟨kvs, by rw [upd_ne hDL]; exact hkv, hke⟩, upd_same, ci.nd, ci.kp, ci.sk, fun z hz => ci.lk z (by simp [hz])⟩
      generalize upd H' Ln (.lst (ln'.map V.int)) = Hs at g' ci' ⊢
      refine seq_walk ((v2.ex e2).ex g.ff) (.inr rfl) g'.fh fun J us G w2 hG hus hlen2 => ?_
      rw [hlen2, List.length_map] at w2
      refine for_it w2 (fun j σ'' H'' => ∃ (o4 o5 : Option V) (F'' : Hp) (ks2 ln2 : List Int), σ'' = [some (.ref x), some v, some (.ref D), some (.ref Ln), o4, o5] ∧ Gr [D, Ln] F' Hs F'' H'' ∧ F'' D = none ∧ F'' Ln = none ∧ CInv (trip wd.m s.A) s.P S D Ln ks2 ln2 H'' ∧ p0 ∈ ks2 ∧
          (∀ p ∈ ks2, p ∉ ln2 → p ≠ p0 → ∀ q, (p, ("" : Str), q) ∈ trip wd.m s.A → q ∈ ks2) ∧ (∀ q ∈ l.take j, q ∈ ks2) ∧ 2 * (s.P.length - ks2.length) + ln2.length + 1 ≤ m)
        ⟨o4, o5, F', ks, ln', rfl, Gr.refl g'.fh, fD', fL', ci', p0k, fun p hp hn h0 => cl p hp (by simp [hn, h0]), by simp, by rw [em]; simp; omega⟩ (fun j σ'' H'' _ ⟨_, _, F'', _, _, _, g2, _⟩ => hG H'' (fun a o e => g2.fh a o (g2.ff a o e))) ?_ ?_
      · rintro j y σ'' H2' H3 hj ⟨o4, o5, F'', ks2, ln2, rfl, g2, fD'', fL'', c2, pk2, cl2, tk2, m3⟩ ⟨rfl, hyj⟩
        obtain ⟨d', q1, q2⟩ := hus.get hyj
        rw [List.getElem?_map] at q1
        obtain ⟨b, hb, rfl⟩ := Option.map_eq_some_iff.mp q1
        rw [dp_int] at q2
        subst q2
        have tk : l.take (j + 1) = l.take j ++ [b] := by rw [List.take_add_one, hb]; rfl
        have bR : (p0, ("" : Str), b) ∈ trip wd.m s.A := (v3 b).mp (List.mem_of_getElem? hb)
        obtain ⟨kvs, hkv, hke⟩ := c2.hd
        have lks : ks2.length ≤ s.P.length := nodup_le c2.nd fun z hz => (c2.kp z hz).1
        refine ⟨_, rfl, _, rfl, D, _, rfl, DGet.k (k := Sum.inl b) hkv, _, rfl, ?_⟩
        by_cases hbk : b ∈ ks2
        · refine iteNo (by rw [kv_some hke hbk]; decide) ⟨_, _, F'', ks2, ln2, rfl, g2, fD'', fL'', c2, pk2, cl2, fun q hq => ?_, m3⟩
          rw [tk, List.mem_append, List.mem_singleton] at hq
          rcases hq with hq | rfl
          · exact tk2 q hq
          · exact hbk
        · refine iteYes (by rw [kv_none hke hbk]; rfl) ?_
          refine ⟨_, rfl, _, rfl, D, _, rfl, DPut.k (k := Sum.inl b) hkv (by have := kv_len hke; omega), ?_⟩
          have hL3 : upd H3 D (.dK (putK kvs (Sum.inl b) (.bl true))) Ln = some (.lst (ln2.map V.int)) := by rw [upd_ne (Ne.symm hDL)]; exact c2.hl
          refine ⟨_, rfl, .inl ⟨rfl, _, .inl (.inl hL3)⟩, _, rfl, Ln, _, _, rfl, rfl, hL3, by rw [List.length_map]; omega, ?_⟩
          have g3 := (g2.mut (o := .dK (putK kvs (Sum.inl b) (.bl true))) fD'' (.inl (by simp))).mut (o := .lst (ln2.map V.int ++ [.int b])) fL'' (.inl (by simp))
          have lb : ks2.length + 1 ≤ s.P.length := by
            have z := nodup_le (l := ks2 ++ [b]) (m := s.P) (List.nodup_append.mpr ⟨c2.nd, by simp, fun a ha c hc e => hbk (by rw [← List.mem_singleton.mp hc, ← e]; exact ha)⟩) fun z hz => by
              rw [List.mem_append, List.mem_singleton] at hz
              rcases hz with hz | rfl
              · exact (c2.kp z hz).1
              · exact oks.to bR
            simpa using z
          refine ⟨_, _, F'', ks2 ++ [b], ln2 ++ [b], rfl, g3, fD'', fL'', ⟨⟨_, by rw [upd_ne hDL]; exact upd_same, kv_put hke hbk⟩, by rw [List.map_append]; exact upd_same, List.nodup_append.mpr ⟨c2.nd, by simp, fun a ha c hc e => hbk (by rw [← List.mem_singleton.mp hc, ← e]; exact ha)⟩, fun z hz => ?_, fun z hz => by simp [c2.sk z hz], fun z hz => ?_⟩, by simp [pk2], fun p hp hn h0 q' hq' => ?_, fun q' hq' => ?_, by simp; omega⟩
          · rw [List.mem_append, List.mem_singleton] at hz
            rcases hz with hz | rfl
            · exact c2.kp z hz
            · exact ⟨oks.to bR, .step (c2.kp p0 pk2).2 bR⟩
          · rw [List.mem_append, List.mem_singleton] at hz ⊢
            exact hz.imp (c2.lk z) id
          · rw [List.mem_append, List.mem_singleton, not_or] at hn
            rw [List.mem_append, List.mem_singleton] at hp
            rw [List.mem_append]
            exact .inl (cl2 p (hp.resolve_right hn.2) hn.1 h0 q' hq')
          · rw [tk, List.mem_append, List.mem_singleton] at hq'
            rw [List.mem_append, List.mem_singleton]
            exact hq'.imp (tk2 q') id
      · rintro σ'' H3 ⟨o4, o5, F'', ks2, ln2, rfl, g2, fD'', fL'', c2, pk2, cl2, tk2, m3⟩
        rw [List.take_length] at tk2
        refine ⟨_, ?_, o4, o5, F'', ks2, ln2, rfl, g'.trans g2 (fun b hb => .inl hb), fD'', fL'', c2, fun p hp hn q' hq' => ?_, rfl, by omega⟩
        · omega
        · by_cases e : p = p0
          · subst e
            exact tk2 q' ((v3 q').mpr hq')
          · exact cl2 p hp hn e q' hq'
theorem ok_begun {f CH CS CW : Addr} {fd : FuncData} (F : Fun K "begun" "Hearing.begun" s_Hearing_begun f fd) (TH : HeC K CH) (TS : SpC K CS) (Me_closed : Met P w K mg base CH "closed" 1 ["self", "places"] (spClosed K CH CS CW)) : FnOk P w K mg base CX0 2 f fd ["self"] (spBegun K CH CS CW) := by
  refine F.ok sc_Hearing_begun (fun vs H Q E h => ?_) (fun cdv A outer s H vs Q E hr h => ?_)
  · obtain ⟨F0, x, s, wd, rfl, _⟩ := h
    rfl
  · obtain ⟨F0, x, s, wd, rfl, fs, he, ndS, zP, q⟩ := h
    obtain ⟨dx, sx, wx, U, L, kU, kL, hx, ⟨⟨ds, va, vs, vp, vz, vd, hsx, hA, hS, _⟩, oks⟩, hwa, hU, hL, un, _⟩ := he.un
    refine ⟨_, (pss_one (ps_ret (pe_me Me_closed (hr.mono (by decide)) (pv 0) (pa_cons (zfld K (zfld K (pv 0))) pa_nil)))), ?_⟩
    refine ⟨_, rfl, x, dx, _, rfl, sees_i fs hx, rfl, ?_⟩
    refine ⟨_, rfl, x, CH, dx, _, _, rfl, sees_i fs hx, TH.cl, TH.nS, rfl, sx, CS, ds, _, _, rfl, sees_i fs hsx, TS.cl, TS.nS, rfl, ?_⟩
    exact ⟨F0, x, _, _, s.S, s, wd, rfl, fs, he, hS, .inr rfl, fun z hz => (oks.pl z).mpr (.inl hz), ndS, zP, q⟩
theorem ok_behind {f CH CS CW : Addr} {fd : FuncData} (F : Fun K "behind" "Hearing.behind" s_Hearing_behind f fd) (T : Txt mg) (TH : HeC K CH) (Me_closed : Met P w K mg base CH "closed" 1 ["self", "places"] (spClosed K CH CS CW)) : FnOk P w K mg base CX0 2 f fd ["self", "places", "mark"] (spBehind K CH CS CW) := by
  refine F.ok sc_Hearing_behind (fun vs H Q E h => ?_) (fun cdv A outer s H vs Q E hr h => ?_)
  · obtain ⟨F0, x, v, d, S, k, s, wd, rfl, _⟩ := h
    rfl
  · obtain ⟨F0, x, v, d, S, k, s, wd, rfl, fs, he, hv, hq, hk, zP, q⟩ := h
    obtain ⟨dx, sx, wx, U, L, kU, kL, hx, hsp, hwa, hU, hL, _, led⟩ := he.un
    obtain ⟨a, kD, vL, haD, cD⟩ := led k hk
    have oks := hsp.ok
    have hu := hu_of hr
    refine ⟨_, (pss_cons (zs (i := 3) sc_Hearing_behind.nd (pe_dget2 hu (zfld K (pv 0)) (pv 2) pe_dnewK (m2_of rfl)))
      (pss_cons (ps_setDc2 (i := 4) (own := [("place", 5), ("later", 6)]) (vs1 := [6]) rfl sc_Hearing_behind.nd rfl rfl (sw_trueD rfl rfl rfl (by decide +kernel)) (zseq K (pv 1)) (blkOk_by (N := sc_Hearing_behindN) (sc := defScope s_Hearing_behind) (by decide +kernel)) (by decide) ⟨(fun _ _ _ _ _ => (zg (i := 5) sc_Hearing_behind.nd)), (fun _ _ _ _ _ => pts_nil), (fun _ _ _ _ _ => (zseq K (pe_dget2 hu (pv 3) (pv 5) (pe_tup pa_nil) (m2_of rfl)))), (fun _ _ _ _ _ => (zg (i := 6) sc_Hearing_behind.nd)), (fun _ _ _ _ _ => pts_nil), (fun _ _ _ _ _ => (pv 6)), (fun _ _ _ _ _ => pe_bl)⟩)
      (pss_one (ps_ret (pe_me Me_closed (hr.mono (by decide)) (pv 0) (pa_cons (pe_callB (call_sortedDI rfl) (by rfl) T.sorted bt_sorted (pa_cons (pv 4) pa_nil)) pa_nil)))))), ?_⟩
    have lz : 100000 < sizeLine := by rw [sizeLine_eq]; decide
    refine ⟨_, rfl, x, CH, dx, _, _, rfl, sees_i fs hx, TH.cl, TH.nL, rfl, L, rfl, .inl ⟨kL, sees_d fs hL⟩, _, rfl, fun p0 hp0 => ?_⟩
    have g1 := (Gr.refl (B := []) fs).newM (o := .dK []) hp0
    refine ⟨_, .inl ⟨kL, Sum.inr k, sees_d g1.fh hL, rfl, rfl⟩, ?_⟩
    rw [vL]
    generalize upd H p0 (.dK []) = H1 at g1 ⊢
    refine ⟨_, rfl, seq_walk hv hq g1.fh fun J xs G w1 hG hxs hlen D hD => ?_⟩
    rw [hlen, List.length_map] at w1
    refine loop_it w1 (fun i H' => ∃ (F' : Hp) (kvs : List (Key × V)) (l : List Int), Gr [] F0 H1 F' H' ∧ F' D = none ∧ H' D = some (.dK kvs) ∧ kvs.map (·.1) = l.map Sum.inl ∧ l.Nodup ∧ ∀ z, z ∈ l ↔ ∃ p ∈ S.take i, (p, k, z) ∈ trip wd.m s.A)
      ⟨F0, [], [], (Gr.refl g1.fh).newM hD, g1.fh.dm hD, upd_same, rfl, List.nodup_nil, by simp⟩ (fun i H' _ ⟨F', _, _, g, _⟩ => hG H' (fun a o e => g.fh a o (g.ff a o e))) (fun i x' H' H'' hi ⟨F', kvs, l, g, fD, hDc, ke, nd, mem⟩ y => ?_) fun H' ⟨F', kvs, l, g, fD, hDc, ke, nd, mem⟩ => ?_
    · obtain ⟨rfl, hxi⟩ := y
      obtain ⟨d', q1, q2⟩ := hxs.get hxi
      rw [List.getElem?_map] at q1
      obtain ⟨p, hb, rfl⟩ := Option.map_eq_some_iff.mp q1
      rw [dp_int] at q2
      subst q2
      refine ⟨rfl, yesI ?_⟩
      obtain ⟨lp, y1, y4⟩ := cD p
      have aF : F' a = some (.dK kD) := g.ff _ _ haD
      have tk : S.take (i + 1) = S.take i ++ [p] := by rw [List.take_add_one, hb]; rfl
      refine ⟨_, rfl, a, rfl, .inl ⟨kD, sees_d g.fh aF⟩, _, rfl, Nat.zero_le _, fun t0 ht0 => ⟨_, .inl ⟨kD, Sum.inl p, sees_d (g.new ht0).fh ((Ex.new (g.fh.dm ht0)) _ _ aF), rfl, rfl⟩, ?_⟩⟩
      have ga := g.new (o := .tup []) ht0
      have e0 := Ex.new (o := HO.tup []) (g.fh.dm ht0)
      have hDa : upd H'' t0 (.tup []) D = some (.dK kvs) := by rw [upd_ne (ne_of_none hDc ht0)]; exact hDc
      have fDa : upd F' t0 (.tup []) D = none := by rw [upd_ne (ne_of_none hDc ht0)]; exact fD
      have ho : Dp K (upd F' t0 (.tup [])) ((valV kD (Sum.inl p)).getD (.ref t0)) (.tuple (lp.map .int)) := by
        rcases y1 with ⟨y1, rfl⟩ | ⟨v, y1, y2⟩
        · rw [y1]
          exact .tup (.inl (.inl upd_same)) .nil
        · rw [y1]
          exact y2.ex (g.ff.trans e0)
      generalize (valV kD (Sum.inl p)).getD (.ref t0) = vo at ho ⊢
      generalize upd H'' t0 (.tup []) = Hs at ga hDa ⊢
      generalize upd F' t0 (.tup []) = Fs at ga fDa ho
      refine seq_walk ho (.inr rfl) ga.fh fun J2 ys G2 w2 hG2 hys hlen2 => ?_
      rw [hlen2, List.length_map] at w2
      refine loop_it w2 (fun j H2 => ∃ (F2 : Hp) (kvs2 : List (Key × V)) (l2 : List Int), Gr [D] Fs Hs F2 H2 ∧ F2 D = none ∧ H2 D = some (.dK kvs2) ∧ kvs2.map (·.1) = l2.map Sum.inl ∧ l2.Nodup ∧ ∀ z, z ∈ l2 ↔ (∃ p ∈ S.take i, (p, k, z) ∈ trip wd.m s.A) ∨ z ∈ lp.take j)
        ⟨Fs, kvs, l, Gr.refl ga.fh, fDa, hDa, ke, nd, fun z => by rw [mem z]; simp⟩ (fun j H2 _ ⟨F2, _, _, g2, _⟩ => hG2 H2 (fun a o e => g2.fh a o (g2.ff a o e))) (fun j x' H2 H3 hj ⟨F2, kvs2, l2, g2, fD2, hD2, ke2, nd2, mem2⟩ y => ?_) fun H2 ⟨F2, kvs2, l2, g2, fD2, hD2, ke2, nd2, mem2⟩ => ?_
      · obtain ⟨rfl, hyi⟩ := y
        obtain ⟨d', q1, q2⟩ := hys.get hyi
        rw [List.getElem?_map] at q1
        obtain ⟨b, hbj, rfl⟩ := Option.map_eq_some_iff.mp q1
        rw [dp_int] at q2
        subst q2
        have tj : lp.take (j + 1) = lp.take j ++ [b] := by rw [List.take_add_one, hbj]; rfl
        have ll : l2.length ≤ s.P.length := nodup_le nd2 fun z hz => by
          rcases (mem2 z).mp hz with ⟨p', _, h⟩ | h
          · exact oks.to h
          · exact oks.to ((y4 z).mp (List.mem_of_mem_take h))
        have kl := kv_len ke2
        refine ⟨rfl, yesI ⟨_, rfl, kvs2, Sum.inl b, rfl, hD2, by omega, ?_⟩⟩
        have gm := g2.mut (o := .dK (putK kvs2 (Sum.inl b) (.bl true))) fD2 (.inl (by simp))
        by_cases hbl : b ∈ l2
        · refine ⟨F2, _, l2, gm, fD2, upd_same, kv_old ke2 hbl, nd2, fun z => ?_⟩
          rw [mem2 z, tj, List.mem_append, List.mem_singleton]
          constructor
          · exact fun h => h.imp id .inl
          · rintro (h | h | rfl)
            · exact .inl h
            · exact .inr h
            · exact (mem2 z).mp hbl
        · refine ⟨F2, _, l2 ++ [b], gm, fD2, upd_same, kv_put ke2 hbl, List.nodup_append.mpr ⟨nd2, by simp, fun a ha c hc e => hbl (by rw [← List.mem_singleton.mp hc, ← e]; exact ha)⟩, fun z => ?_⟩
          rw [List.mem_append, List.mem_singleton, mem2 z, tj, List.mem_append, List.mem_singleton, or_assoc]
      · refine ⟨F2, kvs2, l2, ga.trans g2 (fun b hb => .inr (by rw [List.mem_singleton.mp hb]; exact hD)), fD2, hD2, ke2, nd2, fun z => ?_⟩
        rw [mem2 z, List.take_length, tk]
        simp [or_and_right, exists_or, y4 z]
    · rw [List.take_length] at mem
      have gT := g1.trans g
      have ll : l.length ≤ s.P.length := nodup_le nd fun z hz => by
        obtain ⟨p', _, h⟩ := (mem z).mp hz
        exact oks.to h
      refine ⟨_, rfl, x, dx, _, rfl, sees_i g.fh (g.ff _ _ hx), rfl, ?_⟩
      refine ⟨_, rfl, D, kvs, l, rfl, .inl hDc, ke, by omega, fun ys p pm pw hp => ?_⟩
      have gE := gT.new (o := .lst (ys.map V.int)) hp
      refine ⟨_, x, _, .list (ys.map .int), ys, s, wd, rfl, gE.fh, he.ex' gE.ff, .lst (.inl (.inl upd_same)) (dps_int.mpr rfl), .inl rfl, fun z hz => ?_, pm.nodup_iff.mpr nd, zP, fun r ns F2 H2 g2 hd pw2 mem2 => q r ns ys F2 H2 (gE.trans g2) hd pw2 (fun z => by rw [pm.mem_iff, mem z]) mem2⟩
      obtain ⟨p', _, h⟩ := (mem z).mp (pm.mem_iff.mp hz)
      exact oks.to h
end
end TW
set_option Elab.async false
set_option linter.all false
set_option maxRecDepth 100000
set_option maxHeartbeats 8000000
/-! what is asked from outside -/
namespace TW
open PySem PySem.Spec PyProof.Rows L2 RZ StX
open Evl (Ex)
theorem inV_str {k : Str} {l : List Str} (h : k ∈ l) : inV (.str k) (l.map V.str) = true := List.any_eq_true.mpr ⟨.str k, List.mem_map.mpr ⟨k, h, rfl⟩, by simp [eqV]⟩
theorem flat_strs (l : List Str) : (l.map V.str).all flatV = true := by
  rw [List.all_map]
  exact List.all_eq_true.mpr fun _ _ => rfl
/-- as Reach, from a set -/
inductive ReachP (R : List (Int × Str × Int)) (S : Int → Prop) : Int → Prop
  | base {k : Int} (h : S k) : ReachP R S k
  | step {p q : Int} (h : ReachP R S p) (e : (p, ("" : Str), q) ∈ R) : ReachP R S q
theorem reachP {R : List (Int × Str × Int)} {T : List Int} {S : Int → Prop} (h : ∀ z, z ∈ T ↔ S z) (k : Int) : Reach R T k ↔ ReachP R S k :=
  ⟨fun r => by
    induction r with
    | base q => exact .base ((h _).mp q)
    | step _ e ih => exact .step ih e, fun r => by
    induction r with
    | base q => exact .base ((h _).mpr q)
    | step _ e ih => exact .step ih e⟩
theorem ReachP.congr {R : List (Int × Str × Int)} {S S' : Int → Prop} (h : ∀ z, S z ↔ S' z) (k : Int) : ReachP R S k ↔ ReachP R S' k :=
  ⟨fun r => by
    induction r with
    | base q => exact .base ((h _).mp q)
    | step _ e ih => exact .step ih e, fun r => by
    induction r with
    | base q => exact .base ((h _).mpr q)
    | step _ e ih => exact .step ih e⟩
/-- behind the mark k -/
def Beh (R : List (Int × Str × Int)) (k : Str) (S : Int → Prop) : Int → Prop := ReachP R fun z => ∃ p, S p ∧ (p, k, z) ∈ R
theorem Beh.congr {R : List (Int × Str × Int)} {k : Str} {S S' : Int → Prop} (h : ∀ z, S z ↔ S' z) (q : Int) : Beh R k S q ↔ Beh R k S' q :=
  ReachP.congr (fun z => exists_congr fun p => and_congr (h p) Iff.rfl) q
/-- behind a row -/
def Goes (R : List (Int × Str × Int)) (S : Int → Prop) (row : List Str) : Int → Prop := row.foldl (fun A k => Beh R k A) S
theorem Goes.snoc {R : List (Int × Str × Int)} {S : Int → Prop} {row : List Str} {k : Str} : Goes R S (row ++ [k]) = Beh R k (Goes R S row) := by
  unfold Goes
  rw [List.foldl_append]
  rfl
structure Bnd (s : SpD) (wd : WaD) : Prop where
  A : s.A.length ≤ 2000
  P : s.P.length < 64
  L : wd.all.length ≤ 4000
  m : ∀ k ∈ wd.ks, (wd.m k).length ≤ 6
  Z : ∀ z ∈ s.Z, z ∈ wd.ks
def spNeedHe (K : PySem.W.Frag) (CH CS CW : Addr) : Sp := fun vs H Q _ => ∃ (F : Hp) (sx wx : Addr) (s : SpD) (wd : WaD), vs = [.ref sx, .ref wx] ∧ Sees F H ∧ SpAt K CS F sx s ∧ WaAt K CW F wx wd ∧ Bnd s wd ∧
  ∀ (x : Addr) (F' H' : Hp), Gr [] F H F' H' → HeAt K CH CS CW F' x s wd → Q (.ref x) H'
def spNeedPl (K : PySem.W.Frag) (CH CS CW : Addr) : Sp := fun vs H Q _ => ∃ (F : Hp) (x : Addr) (v : V) (d : PyData) (S : List Int) (s : SpD) (wd : WaD), vs = [.ref x, v] ∧ Sees F H ∧ HeAt K CH CS CW F x s wd ∧ Dp K F v d ∧ isSeq d (S.map .int) ∧ isLot d = true ∧ S.length ≤ 5000 ∧ (∀ z ∈ S, z ∈ s.P) ∧ s.P.length < 64 ∧
  ∀ (r : V) (F' H' : Hp), Gr [] F H F' H' → Dp K F' r (.tuple (S.map .int)) → Q r H'
def spNeedRow (K : PySem.W.Frag) (CH CS CW : Addr) : Sp := fun vs H Q _ => ∃ (F : Hp) (x : Addr) (v : V) (row : List Str) (s : SpD) (wd : WaD), vs = [.ref x, v] ∧ Sees F H ∧ HeAt K CH CS CW F x s wd ∧ Dp K F v (.list (row.map .str)) ∧ (∀ k ∈ row, k ∈ wd.all) ∧
  ∀ (r : V) (F' H' : Hp), Gr [] F H F' H' → Dp K F' r (.tuple (row.map .str)) → Q r H'
def spSilent (K : PySem.W.Frag) (CS CW : Addr) : Sp := fun vs H Q _ => ∃ (F : Hp) (sx wx : Addr) (v : V) (d : PyData) (S : List Int) (s : SpD) (wd : WaD), vs = [.ref sx, .ref wx, v] ∧ Sees F H ∧ SpAt K CS F sx s ∧ WaAt K CW F wx wd ∧ Bnd s wd ∧
  Dp K F v d ∧ isSeq d (S.map .int) ∧ isLot d = true ∧ S.Nodup ∧ S.length ≤ 5000 ∧ (∀ z ∈ S, z ∈ s.P) ∧
  ∀ (r : V) (ns : List Int) (F' H' : Hp), Gr [] F H F' H' → Dp K F' r (.tuple (ns.map .int)) → ns.Pairwise (· < ·) → (∀ q, q ∈ ns ↔ ReachP (trip wd.m s.A) (· ∈ S) q) → Q r H'
def spAfter (K : PySem.W.Frag) (CS CW : Addr) : Sp := fun vs H Q _ => ∃ (F : Hp) (sx wx : Addr) (v : V) (k : Str) (d : PyData) (S : List Int) (s : SpD) (wd : WaD), vs = [.ref sx, .ref wx, v, .str k] ∧ Sees F H ∧ SpAt K CS F sx s ∧ WaAt K CW F wx wd ∧ Bnd s wd ∧
  Dp K F v d ∧ isSeq d (S.map .int) ∧ isLot d = true ∧ S.length ≤ 5000 ∧ (∀ z ∈ S, z ∈ s.P) ∧ k ∈ wd.all ∧
  ∀ (r : V) (ns : List Int) (F' H' : Hp), Gr [] F H F' H' → Dp K F' r (.tuple (ns.map .int)) → ns.Pairwise (· < ·) → (∀ q, q ∈ ns ↔ Beh (trip wd.m s.A) k (· ∈ S) q) → Q r H'
def spKnown (K : PySem.W.Frag) (CS CW : Addr) : Sp := fun vs H Q _ => ∃ (F : Hp) (sx wx : Addr) (v : V) (row : List Str) (s : SpD) (wd : WaD), vs = [.ref sx, .ref wx, v] ∧ Sees F H ∧ SpAt K CS F sx s ∧ WaAt K CW F wx wd ∧ Bnd s wd ∧ s.S.Nodup ∧ 
  Dp K F v (.list (row.map .str)) ∧ (∀ k ∈ row, k ∈ wd.all) ∧
  ∀ (r : V) (ns : List Int) (F' H' : Hp), Gr [] F H F' H' → Dp K F' r (.tuple (ns.map .int)) → ns.Pairwise (· < ·) → (∀ q, q ∈ ns ↔ Goes (trip wd.m s.A) (ReachP (trip wd.m s.A) (· ∈ s.S)) row q) → Q r H'
section
variable {P : Program} {w : World} {K : PySem.W.Frag} {mg : Str → Option Value} {base : Heap}
theorem ok_need_hearing {f CH CS CW : Addr} {fd : FuncData} (F : Fun K "need_hearing" "need_hearing" s_need_hearing f fd) (C_need_speech : Cal P w K mg base "need_speech" 1 ["value", "part"] [.str "speech"] (spNeedSp K CS)) (C_need_wall : Cal P w K mg base "need_wall" 2 ["value", "speech"] [] (spNeedWa K CS CW))
    (M_Hearing : Mkr P w K mg base "Hearing" CH 1 ["self", "speech", "wall"] (spHeI K CH CS CW)) : FnOk P w K mg base CX0 3 f fd ["speech", "wall"] (spNeedHe K CH CS CW) := by
  refine F.ok sc_need_hearing (fun vs H Q E h => ?_) (fun cdv A outer s H vs Q E hr h => ?_)
  · obtain ⟨F0, sx, wx, s, wd, rfl, _⟩ := h
    rfl
  · obtain ⟨F0, sx, wx, s, wd, rfl, fs, hsp, hwa, b, q⟩ := h
    refine ⟨_, (pss_cons (ps_expr (pe_cal C_need_speech (hr.mono (by decide)) (pa_cons (pv 0) pa_nil)))
      (pss_cons (ps_expr (pe_cal C_need_wall (hr.mono (by decide)) (pa_cons (pv 1) (pa_cons (pv 0) pa_nil))))
      (pss_one (ps_ret (pe_mk M_Hearing (hr.mono (by decide)) (pa_cons (pv 0) (pa_cons (pv 1) pa_nil))))))), ?_⟩
    refine ⟨_, rfl, F0, sx, _, s, rfl, fs, hsp, fun F1 H1 g1 => ?_⟩
    refine ⟨_, rfl, _, rfl, F1, sx, wx, s, wd, rfl, g1.fh, hsp.ex' g1.ff, hwa.ex' g1.ff, b.A, b.Z, fun F2 H2 g2 => ?_⟩
    have g12 := g1.trans g2
    refine ⟨_, rfl, _, rfl, fun x dx hx hdx ne => ?_⟩
    have n1 : upd H2 dx (.own x) x = none := by rw [upd_ne (Ne.symm ne)]; exact hx
    have g3 := (g12.newM (o := .own x) hdx).newM (o := .ins CH dx []) n1
    refine ⟨F2, x, dx, sx, wx, s, wd, rfl, upd_same, g12.fh.dm hx, g3.fh, hsp.ex' g12.ff, hwa.ex' g12.ff, b.A, by have := b.P; omega, b.L, b.m, b.Z, fun F4 H4 g4 fx4 he => ⟨rfl, ?_⟩⟩
    have hx4 : H4 x ≠ none := fun z => by
      have z2 := g4.dm x z
      rw [upd_same] at z2
      cases z2
    obtain ⟨o, ho⟩ := Option.ne_none_iff_exists'.mp hx4
    have hx0 := g12.dm x hx
    rw [ho] at he
    exact q x _ H4 ((g3.trans g4 (fun b hb => .inr (by rw [List.mem_singleton.mp hb]; exact hx0))).done hx0 fx4 ho) he
theorem ok_need_places {f CH CS CW : Addr} {fd : FuncData} (F : Fun K "need_places" "need_places" s_need_places f fd) (T : Txt mg) (TH : HeC K CH) (TS : SpC K CS) (C_is_lot : Cal P w K mg base "is_lot" 3 ["value"] [] (spLot K)) (C_is_inside : Cal P w K mg base "is_inside" 1 ["lot", "other"] [] (spInside K)) :
    FnOk P w K mg base CX0 4 f fd ["hearing", "value"] (spNeedPl K CH CS CW) := by
  refine F.ok sc_need_places (fun vs H Q E h => ?_) (fun cdv A outer s H vs Q E hr h => ?_)
  · obtain ⟨F0, x, v, d, S, s, wd, rfl, _⟩ := h
    rfl
  · obtain ⟨F0, x, v, d, S, s, wd, rfl, fs, he, hv, hq, lot, zS, sub, zP, q⟩ := h
    obtain ⟨dx, sx, wx, U, L, kU, kL, hx, ⟨⟨ds, va, vs, vp, vz, vd, hsx, hA, hS, hP, _⟩, oks⟩, hwa, hU, hL, _, _⟩ := he.un
    refine ⟨_, (pss_cons (ps_if (PW.pt (pw_or (pt_not (pt_val (pe_cal C_is_lot (hr.mono (by decide)) (pa_cons (pv 1) pa_nil)))) (pw_or1 (pt_not (pt_val (pe_cal C_is_inside (hr.mono (by decide)) (pa_cons (pv 1) (pa_cons (zfld K (zfld K (pv 0))) pa_nil))))))))
        (pss_one ps_never)
        pss_nil)
      (pss_one (ps_ret (pe_callTy (cr_tuple K) (by rfl) T.tuple bt_tuple (pa_cons (pv 1) pa_nil))))), ?_⟩
    refine ⟨_, rfl, F0, v, d, rfl, fs, hv, by rcases hq with rfl | rfl <;> (show (S.map PyData.int).length ≤ 5000; rw [List.length_map]; omega), fun F1 H1 g1 => ⟨_, rfl, ?_⟩⟩
    rw [lot]
    refine iteF ?_
    refine ⟨_, rfl, _, rfl, x, CH, dx, _, _, rfl, sees_i g1.fh (g1.ff _ _ hx), TH.cl, TH.nS, rfl, sx, CS, ds, _, _, rfl, sees_i g1.fh (g1.ff _ _ hsx), TS.cl, TS.nP, rfl, ?_⟩
    refine ⟨F1, v, vp, d, _, S, s.P, rfl, g1.fh, hv.ex g1.ff, hP.ex g1.ff, hq, .inr rfl, zS, by omega, fun F2 H2 g2 => ⟨_, rfl, ?_⟩⟩
    rw [show (S.map fun i => decide (i ∈ s.P)).all id = true by rw [List.all_map]; exact List.all_eq_true.mpr fun z hz => decide_eq_true (sub z hz)]
    refine iteF ⟨_, rfl, tuple_dp ((hv.ex g1.ff).ex g2.ff) hq g2.fh fun r F3 H3 g3 hr => q r F3 H3 ((g1.trans g2).trans g3) hr⟩
theorem ok_need_row {f CH CS CW : Addr} {fd : FuncData} (F : Fun K "need_row" "need_row" s_need_row f fd) (T : Txt mg) (TH : HeC K CH) (TW_ : WaC K CW) (C_is_listed : Cal P w K mg base "is_listed" 1 ["value"] [] (spListed K)) : FnOk P w K mg base CX0 2 f fd ["hearing", "value"] (spNeedRow K CH CS CW) := by
  refine F.ok sc_need_row (fun vs H Q E h => ?_) (fun cdv A outer s H vs Q E hr h => ?_)
  · obtain ⟨F0, x, v, row, s, wd, rfl, _⟩ := h
    rfl
  · obtain ⟨F0, x, v, row, s, wd, rfl, fs, he, hv, mem, q⟩ := h
    obtain ⟨dx, sx, wx, U, L, kU, kL, hx, hsp, ⟨⟨dw, D, vs', va', kvs, hwx, hD, tl, hAll⟩, okw⟩, hU, hL, _, _⟩ := he.un
    refine ⟨_, (pss_cons (ps_if (pt_not (pt_val (pe_cal C_is_listed (hr.mono (by decide)) (pa_cons (pv 1) pa_nil))))
        (pss_one ps_never)
        pss_nil)
      (pss_cons (ps_for PassesOwn.never rfl (pi_enum rfl T.enumerate (pa_cons (pv 1) pa_nil)) (zpg (n := 2) K (pgs_cons (zg (i := 2) sc_need_row.nd) (pgs_cons (zg (i := 3) sc_need_row.nd) pgs_nil)))
        (pss_one (ps_if (PW.pt (pw_or (pt_not (pt_val (pe_callB (cr_isi K) (by rfl) T.isinstance bt_isinstance (pa_cons (pv 3) (pa_cons (zty T.str bt_str) pa_nil))))) (pw_or1 (pt_cmpR (op_niK K) (pv 3) (zfld K (zfld K (pv 0))) rfl))))
          (pss_one ps_never)
          pss_nil)))
      (pss_one (ps_ret (pe_callTy (cr_tuple K) (by rfl) T.tuple bt_tuple (pa_cons (pv 1) pa_nil)))))), ?_⟩
    refine ⟨_, rfl, F0, v, _, rfl, fs, hv, fun F1 H1 g1 => ⟨_, rfl, iteF ?_⟩⟩
    obtain ⟨p, xf, rfl, hsf, hxf⟩ := dp_list (hv.ex g1.ff)
    refine ⟨_, rfl, p, xf, rfl, sees_l g1.fh hsf, for_it walk_enum (fun i σ' H' => ∃ (o2 o3 : Option V) (F' : Hp), σ' = [some (.ref x), some (.ref p), o2, o3] ∧ Gr [] F1 H1 F' H') ⟨none, none, F1, rfl, Gr.refl g1.fh⟩ (fun i σ' H' _ ⟨_, _, F', _, g⟩ => sees_l g.fh (Evl.ex_l g.ff hsf)) ?_ ?_⟩
    · rintro i y σ' H' H'' hi ⟨o2, o3, F', rfl, g⟩ ⟨T1, x1, y1, rfl, hT1, rfl, h1, h2⟩
      cases h1
      have h2 : xf[i]? = some y1 := h2
      obtain ⟨dd, k1, k2⟩ := hxf.get h2
      rw [List.getElem?_map] at k1
      obtain ⟨k, ka, rfl⟩ := Option.map_eq_some_iff.mp k1
      rw [dp_str] at k2
      subst k2
      have ga := g.new (o := .tup [.int (i : Nat), .str k]) hT1
      have hTa : SqT K (upd H' T1 (.tup [.int (i : Nat), .str k])) T1 [.int (i : Nat), .str k] := .inl (.inl upd_same)
      generalize upd H' T1 (.tup [.int (i : Nat), .str k]) = Ha at ga hTa ⊢
      generalize upd F' T1 (.tup [.int (i : Nat), .str k]) = Fa at ga
      refine ⟨T1, _, rfl, hTa, rfl, _, _, rfl, _, _, rfl, rfl, ?_⟩
      have e0 : Ex F0 Fa := g1.ff.trans ga.ff
      obtain ⟨pa, xa, rfl, hsa, hxa⟩ := dp_tup (hAll.ex e0)
      rw [dps_str] at hxa
      subst hxa
      refine ⟨_, rfl, isi_dp (.str k) rfl ⟨_, rfl, iteF ?_⟩⟩
      refine ⟨_, rfl, _, rfl, x, CH, dx, _, _, rfl, sees_i ga.fh (e0 _ _ hx), TH.cl, TH.nW, rfl, wx, CW, dw, _, _, rfl, sees_i ga.fh (e0 _ _ hwx), TW_.cl, TW_.nA, rfl, ?_⟩
      refine .mk ⟨pa, _, rfl, .inr (sees_t ga.fh hsa), rfl, flat_strs _, _, rfl, ?_⟩
      rw [inV_str (mem k (List.mem_of_getElem? ka))]
      exact iteF ⟨_, _, Fa, rfl, ga⟩
    · rintro σ' H' ⟨o2, o3, F', rfl, g⟩
      exact ⟨_, rfl, tuple_dp ((hv.ex g1.ff).ex g.ff) (.inl rfl) g.fh fun r F3 H3 g3 hr => q r F3 H3 ((g1.trans g).trans g3) hr⟩
theorem ok_silent {f CH CS CW : Addr} {fd : FuncData} (F : Fun K "silent" "silent" s_silent f fd) (C_need_hearing : Cal P w K mg base "need_hearing" 3 ["speech", "wall"] [] (spNeedHe K CH CS CW)) (C_need_places : Cal P w K mg base "need_places" 4 ["hearing", "value"] [] (spNeedPl K CH CS CW))
    (Me_closed : Met P w K mg base CH "closed" 1 ["self", "places"] (spClosed K CH CS CW)) : FnOk P w K mg base CX0 5 f fd ["speech", "wall", "places"] (spSilent K CS CW) := by
  refine F.ok sc_silent (fun vs H Q E h => ?_) (fun cdv A outer s H vs Q E hr h => ?_)
  · obtain ⟨F0, sx, wx, v, d, S, s, wd, rfl, _⟩ := h
    rfl
  · obtain ⟨F0, sx, wx, v, d, S, s, wd, rfl, fs, hsp, hwa, b, hv, hq, lot, nd, zS, sub, q⟩ := h
    refine ⟨_, (pss_cons (zs (i := 3) sc_silent.nd (pe_cal C_need_hearing (hr.mono (by decide)) (pa_cons (pv 0) (pa_cons (pv 1) pa_nil))))
      (pss_one (ps_ret (pe_me Me_closed (hr.mono (by decide)) (pv 3) (pa_cons (pe_cal C_need_places (hr.mono (by decide)) (pa_cons (pv 3) (pa_cons (pv 2) pa_nil))) pa_nil))))), ?_⟩
    refine ⟨_, rfl, _, rfl, F0, sx, wx, s, wd, rfl, fs, hsp, hwa, b, fun x F1 H1 g1 he => ?_⟩
    obtain ⟨dx, sx', wx', U, L, kU, kL, hx, _⟩ := he.un
    refine ⟨_, rfl, x, dx, _, rfl, sees_i g1.fh hx, rfl, _, rfl, _, rfl, F1, x, v, d, S, s, wd, rfl, g1.fh, he, hv.ex g1.ff, hq, lot, zS, sub, b.P, fun r F2 H2 g2 hr => ?_⟩
    exact ⟨F2, x, r, _, S, s, wd, rfl, g2.fh, he.ex' g2.ff, hr, .inr rfl, sub, nd, b.P, fun r' ns F3 H3 g3 hd pw mem => q r' ns F3 H3 ((g1.trans g2).trans g3) hd pw fun k => (mem k).trans (reachP (fun _ => Iff.rfl) k)⟩
theorem ok_after {f CH CS CW : Addr} {fd : FuncData} (F : Fun K "after" "after" s_after f fd) (T : Txt mg) (TW_ : WaC K CW) (C_need_hearing : Cal P w K mg base "need_hearing" 3 ["speech", "wall"] [] (spNeedHe K CH CS CW)) (C_need_places : Cal P w K mg base "need_places" 4 ["hearing", "value"] [] (spNeedPl K CH CS CW))
    (Me_behind : Met P w K mg base CH "behind" 2 ["self", "places", "mark"] (spBehind K CH CS CW)) : FnOk P w K mg base CX0 5 f fd ["speech", "wall", "places", "mark"] (spAfter K CS CW) := by
  refine F.ok sc_after (fun vs H Q E h => ?_) (fun cdv A outer s H vs Q E hr h => ?_)
  · obtain ⟨F0, sx, wx, v, k, d, S, s, wd, rfl, _⟩ := h
    rfl
  · obtain ⟨F0, sx, wx, v, k, d, S, s, wd, rfl, fs, hsp, hwa, b, hv, hq, lot, zS, sub, hk, q⟩ := h
    refine ⟨_, (pss_cons (zs (i := 4) sc_after.nd (pe_cal C_need_hearing (hr.mono (by decide)) (pa_cons (pv 0) (pa_cons (pv 1) pa_nil))))
      (pss_cons (zs (i := 5) sc_after.nd (pe_cal C_need_places (hr.mono (by decide)) (pa_cons (pv 4) (pa_cons (pv 2) pa_nil))))
      (pss_cons (ps_if (PW.pt (pw_or (pt_not (pt_val (pe_callB (cr_isi K) (by rfl) T.isinstance bt_isinstance (pa_cons (pv 3) (pa_cons (zty T.str bt_str) pa_nil))))) (pw_or1 (pt_cmpR (op_niK K) (pv 3) (zfld K (pv 1)) rfl))))
        (pss_one ps_never)
        pss_nil)
      (pss_one (ps_ret (pe_me Me_behind (hr.mono (by decide)) (pv 4) (pa_cons (pv 5) (pa_cons (pv 3) pa_nil)))))))), ?_⟩
    refine ⟨_, rfl, _, rfl, F0, sx, wx, s, wd, rfl, fs, hsp, hwa, b, fun x F1 H1 g1 he => ?_⟩
    obtain ⟨dx, sx', wx', U, L, kU, kL, hx, _⟩ := he.un
    refine ⟨_, rfl, _, rfl, F1, x, v, d, S, s, wd, rfl, g1.fh, he, hv.ex g1.ff, hq, lot, zS, sub, b.P, fun r F2 H2 g2 hr => ?_⟩
    obtain ⟨⟨dw, D, vs', va', kvs, hwx, hD, tl, hAll⟩, okw⟩ := hwa
    have g12 := g1.trans g2
    obtain ⟨pa, xa, rfl, hsa, hxa⟩ := dp_tup (hAll.ex g12.ff)
    rw [dps_str] at hxa
    subst hxa
    refine ⟨_, rfl, isi_dp (.str k) rfl ⟨_, rfl, iteF ?_⟩⟩
    refine ⟨_, rfl, _, rfl, wx, CW, dw, _, _, rfl, sees_i g2.fh (g12.ff _ _ hwx), TW_.cl, TW_.nA, rfl, ?_⟩
    refine .mk ⟨pa, _, rfl, .inr (sees_t g2.fh hsa), rfl, flat_strs _, _, rfl, ?_⟩
    rw [inV_str hk]
    refine iteF ?_
    refine ⟨_, rfl, x, dx, _, rfl, sees_i g2.fh (g2.ff _ _ hx), rfl, _, rfl, _, rfl, ?_⟩
    exact ⟨F2, x, r, _, S, k, s, wd, rfl, g2.fh, he.ex' g2.ff, hr, .inr rfl, hk, b.P, fun r' ns Tl F3 H3 g3 hd pw memT mem => q r' ns F3 H3 (g12.trans g3) hd pw fun k' => (mem k').trans (reachP memT k')⟩
theorem ok_known {f CH CS CW : Addr} {fd : FuncData} {v0 : V} (F : FunD K "known" "known" (defArgs s_known) (defBody s_known) (defScope s_known) [v0] [] f fd) (C_need_hearing : Cal P w K mg base "need_hearing" 3 ["speech", "wall"] [] (spNeedHe K CH CS CW)) (C_need_row : Cal P w K mg base "need_row" 2 ["hearing", "value"] [] (spNeedRow K CH CS CW))
    (Me_begun : Met P w K mg base CH "begun" 2 ["self"] (spBegun K CH CS CW)) (Me_behind : Met P w K mg base CH "behind" 2 ["self", "places", "mark"] (spBehind K CH CS CW)) : FnOk P w K mg base CX0 4 f fd ["speech", "wall", "row"] (spKnown K CS CW) := by
  refine okD F sc_known (fun vs H Q E h => ?_) (fun cdv A outer s H vs Q E hr h => ?_)
  · obtain ⟨F0, sx, wx, v, row, s, wd, rfl, _⟩ := h
    rfl
  · obtain ⟨F0, sx, wx, v, row, s, wd, rfl, fs, hsp, hwa, b, nd, hv, memr, q⟩ := h
    refine ⟨_, (pss_cons (zs (i := 3) sc_known.nd (pe_cal C_need_hearing (hr.mono (by decide)) (pa_cons (pv 0) (pa_cons (pv 1) pa_nil))))
      (pss_cons (zs (i := 4) sc_known.nd (pe_me0 Me_begun (hr.mono (by decide)) (pv 3)))
      (pss_cons (ps_for PassesOwn.never rfl (zseq K (pe_cal C_need_row (hr.mono (by decide)) (pa_cons (pv 3) (pa_cons (pv 2) pa_nil)))) (zg (i := 5) sc_known.nd)
        (pss_one (zs (i := 4) sc_known.nd (pe_me Me_behind (hr.mono (by decide)) (pv 3) (pa_cons (pv 4) (pa_cons (pv 5) pa_nil))))))
      (pss_one (ps_ret (pv 4)))))), ?_⟩
    refine ⟨_, rfl, _, rfl, F0, sx, wx, s, wd, rfl, fs, hsp, hwa, b, fun x F1 H1 g1 he => ?_⟩
    obtain ⟨dx, sx', wx', U, L, kU, kL, hx, _⟩ := he.un
    refine ⟨_, rfl, x, dx, _, rfl, sees_i g1.fh hx, rfl, F1, x, s, wd, rfl, g1.fh, he, nd, b.P, fun r ns F2 H2 g2 hr0 pw0 mem0 => ?_⟩
    refine ⟨_, rfl, _, rfl, F2, x, v, row, s, wd, rfl, g2.fh, he.ex' g2.ff, (hv.ex g1.ff).ex g2.ff, memr, fun rr F3 H3 g3 hrr => ?_⟩
    refine seq_walk hrr (.inr rfl) g3.fh fun J xs G w1 hG hxs hlen => ?_
    rw [hlen, List.length_map] at w1
    refine for_it w1 (fun i σ' H' => ∃ (o5 : Option V) (F' : Hp) (r' : V) (ns' : List Int), σ' = [some (.ref sx), some (.ref wx), some v, some (.ref x), some r', o5] ∧ Gr [] F3 H3 F' H' ∧ Dp K F' r' (.tuple (ns'.map .int)) ∧ ns'.Pairwise (· < ·) ∧ ∀ q, q ∈ ns' ↔ Goes (trip wd.m s.A) (ReachP (trip wd.m s.A) (· ∈ s.S)) (row.take i) q)
      ⟨none, F3, r, ns, rfl, Gr.refl g3.fh, hr0.ex g3.ff, pw0, fun k => (mem0 k).trans (reachP (fun _ => Iff.rfl) k)⟩ (fun i σ' H' _ ⟨_, F', _, _, _, g, _⟩ => hG H' (sees_gr g)) ?_ ?_
    · rintro i y σ' H' H'' hi ⟨o5, F', r', ns', rfl, g, hr', pw', mem'⟩ ⟨rfl, hyi⟩
      obtain ⟨d, k1, k2⟩ := hxs.get hyi
      rw [List.getElem?_map] at k1
      obtain ⟨k, ka, rfl⟩ := Option.map_eq_some_iff.mp k1
      rw [dp_str] at k2
      subst k2
      have tk : row.take (i + 1) = row.take i ++ [k] := by rw [List.take_add_one, ka]; rfl
      have e3 : Ex F1 F' := (g2.ff.trans g3.ff).trans g.ff
      refine ⟨_, rfl, x, dx, _, rfl, sees_i g.fh (e3 _ _ hx), rfl, _, rfl, _, rfl, F', x, r', _, ns', k, s, wd, rfl, g.fh, he.ex' e3, hr', .inr rfl, memr k (List.mem_of_getElem? ka), b.P, fun r2 ns2 Tl F4 H4 g4 hd pw memT mem => ⟨_, F4, r2, ns2, rfl, g.trans g4, hd, pw, fun q' => ?_⟩⟩
      rw [tk, Goes.snoc, mem q', reachP memT q']
      exact Beh.congr (S := (· ∈ ns')) mem' q'
    · rintro σ' H' ⟨o5, F', r', ns', rfl, g, hr', pw', mem'⟩
      rw [List.take_length] at mem'
      exact ⟨_, rfl, q r' ns' F' H' (((g1.trans g2).trans g3).trans g) hr' pw' mem'⟩
end
end TW
set_option Elab.async false
set_option linter.all false
set_option maxRecDepth 100000
set_option maxHeartbeats 8000000
/-! what draws -/
namespace TW
open PySem PySem.Spec PyProof.Rows L2 RZ StX
open Evl (Ex)
/-- at p stands what draws; t cells begun -/
structure PenAt (K : PySem.W.Frag) (F H : Hp) (p : Addr) (t : Int) : Prop where
  f : F p = none
  h : ∃ (c : Addr) (r : Int) (cells : List Int), H p = some (.lst [.ref c, .int t, .int r]) ∧ Dp K F (.ref c) (.list (cells.map .int)) ∧ cells.length ≤ 63 ∧ 0 ≤ r ∧ 0 ≤ t
def spPen (K : PySem.W.Frag) : Sp := fun vs H Q _ => ∃ (F : Hp) (v : V) (ns : List Int), vs = [v] ∧ Sees F H ∧ Dp K F v (.list (ns.map .int)) ∧ ∀ p F' H', H p = none → Gr [] F H F' H' → PenAt K F' H' p 0 → Q (.ref p) H'
def spDraw (K : PySem.W.Frag) : Sp := fun vs H Q _ => ∃ (F : Hp) (p : Addr) (many t : Int), vs = [.ref p, .int many] ∧ Sees F H ∧ PenAt K F H p t ∧ t ≤ 1000000 ∧ 0 < many ∧ many < 1073741824 ∧
  ∀ (d t' : Int) F' H', 0 ≤ d → d < many → t ≤ t' → t' ≤ t + 1 → Gr [p] F H F' H' → PenAt K F' H' p t' → Q (.int d) H'
theorem rI0_eq {g : Int → Int → V} {i j : Int} {v : V} {H : Hp} {Q : VK} (e : g i j = v) (q : Q v H) : rI0 g (.int i) (.int j) H Q := ⟨i, j, rfl, rfl, by rw [e]; exact q⟩
theorem rI_eq {C : Int → Int → Prop} {g : Int → Int → V} {i j : Int} {v : V} {H : Hp} {Q : VK} (c : C i j) (e : g i j = v) (q : Q v H) : rI C g (.int i) (.int j) H Q := ⟨i, j, rfl, rfl, c, by rw [e]; exact q⟩
section
variable {P : Program} {w : World} {K : PySem.W.Frag} {mg : Str → Option Value} {base : Heap}
theorem ok_draw {f : Addr} {fd : FuncData} (F : Fun K "_law_draw" "_law_draw" s__law_draw f fd) (T : Txt mg) : FnOk P w K mg base CX0 1 f fd ["pen", "many"] (spDraw K) := by
  refine F.ok sc__law_draw (fun vs H Q E h => ?_) (fun cdv A outer s H vs Q E hr h => ?_)
  · obtain ⟨F0, p, many, t, rfl, _⟩ := h
    rfl
  · obtain ⟨F0, p, many, t, rfl, fs, ⟨fp, c, r, cells, hp, hc, lc, r0, t0⟩, t6, m0, m1, q⟩ := h
    have hu := hu_of hr
    have hu64 := hr.units
    refine ⟨_, (pss_cons (ps_if (pt_cmpR op_gt (pe_ix (ix_LT K) (pv 0) pe_int (fun _ _ => rfl)) pe_int (nomark _))
        (pss_cons (zs (i := 2) sc__law_draw.nd (pe_callTy call_int1 (by rfl) T.int bt_int (pa_cons (pe_ix (ix_LT K) (pv 0) pe_int (fun _ _ => rfl)) pa_nil)))
        (pss_cons (ps_asg (pe_op op_fdiv (pv 2) (pv 1)) (pg_sub (pv 0) pe_int set_list))
        (pss_one (ps_ret (pe_op op_mod (pe_callTy call_int1 (by rfl) T.int bt_int (pa_cons (pv 2) pa_nil)) (pv 1))))))
        pss_nil)
      (pss_cons (zs (i := 3) sc__law_draw.nd (pe_ix (ix_LT K) (pv 0) pe_int (fun _ _ => rfl)))
      (pss_cons (ps_asg (pe_op op_add (pv 3) pe_int) (pg_sub (pv 0) pe_int set_list))
      (pss_cons (zs (i := 4) sc__law_draw.nd (pe_op op_add (pe_op op_mul pe_int (pv 3)) pe_int))
      (pss_cons (ps_if (pt_cmpR (op_neDD K hu64) (pe_ix (ix_LT K) (pv 0) pe_int (fun _ _ => rfl)) (pe_lst pa_nil) (nomark _))
        (pss_one (zs (i := 4) sc__law_draw.nd (pe_ix (ix_LT K) (pe_ix (ix_LT K) (pv 0) pe_int (fun _ _ => rfl)) (pe_op op_mod (pe_callTy call_int1 (by rfl) T.int bt_int (pa_cons (pv 3) pa_nil)) (pe_callB (cr_len K) (by rfl) T.len bt_len (pa_cons (pe_ix (ix_LT K) (pv 0) pe_int (fun _ _ => rfl)) pa_nil))) (fun _ _ => rfl))))
        pss_nil)
      (pss_cons (ps_if (PW.pt (pw_and (pt_cmpR op_lt (pv 3) (pe_callB (cr_len K) (by rfl) T.len bt_len (pa_cons (pe_ix (ix_LT K) (pv 0) pe_int (fun _ _ => rfl)) pa_nil)) (nomark _)) (pw_and1 (pt_cmpR op_ge (pe_callB call_abs (by rfl) T.abs bt_abs (pa_cons (pv 4) pa_nil)) (pe_op op_pow pe_int pe_int) (nomark _)))))
        (pss_cons (zs (i := 2) sc__law_draw.nd (pe_op op_add (pe_op op_mul pe_int (pe_op op_sub (pe_callB call_abs (by rfl) T.abs bt_abs (pa_cons (pv 4) pa_nil)) (pe_op op_pow pe_int pe_int))) (pe_callTy call_int1 (by rfl) T.int bt_int (pa_cons (pe_cmpR op_lt (pv 4) pe_int (nomark _)) pa_nil))))
        (pss_cons (ps_asg (pe_op op_fdiv (pe_callTy call_int1 (by rfl) T.int bt_int (pa_cons (pv 2) pa_nil)) (pv 1)) (pg_sub (pv 0) pe_int set_list))
        (pss_one (ps_ret (pe_op op_mod (pe_callTy call_int1 (by rfl) T.int bt_int (pa_cons (pv 2) pa_nil)) (pv 1))))))
        pss_nil)
      (pss_cons (zs (i := 5) sc__law_draw.nd (pe_op op_mod (pe_callTy call_int1 (by rfl) T.int bt_int (pa_cons (pe_op op_pow (pe_op op_add (pe_op op_add (pe_op op_mod (pe_callTy call_int1 (by rfl) T.int bt_int (pa_cons (pv 4) pa_nil)) pe_int) (pe_op op_mul pe_int (pv 3))) pe_int) pe_int) pa_nil)) pe_int))
      (pss_cons (zs (i := 5) sc__law_draw.nd (pe_op op_mod (pe_callTy call_int1 (by rfl) T.int bt_int (pa_cons (pe_op op_pow (pe_op op_add (pe_op op_add (pe_op op_mul (pv 5) (pe_op op_add (pe_op op_mul pe_int (pv 3)) pe_int)) (pe_op op_mul (pe_op op_mul pe_int (pv 3)) (pv 3))) pe_int) pe_int) pa_nil)) pe_int))
      (pss_one (ps_ret (pe_op op_mod (pe_callTy call_int1 (by rfl) T.int bt_int (pa_cons (pe_op op_fdiv (pv 5) pe_int) pa_nil)) (pv 1)))))))))))), ?_⟩
    refine ⟨_, rfl, .mk (.inl ⟨p, _, 2, _, rfl, rfl, .inl (.inl hp), rfl, _, _, rfl, rfl, _, rfl, ?_⟩)⟩
    have pm : p ∈ [p] := List.mem_singleton.mpr rfl
    -- how the rest is drawn from
    have draw : ∀ (rest t' : Int) (F' H' : Hp), 0 ≤ rest → 0 ≤ t' → t ≤ t' → t' ≤ t + 1 → Gr [p] F0 H F' H' → F' p = none → H' p = some (.lst [.ref c, .int t', .int (rest / many)]) → Q (.int (rest % many)) H' := fun rest t' F' H' h0 ht h1 h2 g hf hh =>
      q _ t' F' H' (Int.emod_nonneg _ (by omega)) (Int.emod_lt_of_pos _ m0) h1 h2 g ⟨hf, c, _, cells, hh, hc.ex g.ff, lc, Int.ediv_nonneg h0 (by omega), ht⟩
    by_cases hr0 : 0 < r
    · refine iteYes (decide_eq_true hr0) ?_
      refine ⟨_, rfl, .mk (.inl ⟨p, _, 2, _, rfl, rfl, .inl (.inl hp), rfl, .inl ⟨_, rfl, ?_⟩⟩)⟩
      refine ⟨_, rfl, _, rfl, _, _, rfl, rfl, ⟨m0, m1⟩, _, rfl, p, _, 2, 2, rfl, rfl, hp, rfl, ?_⟩
      refine ⟨_, rfl, .inl ⟨_, rfl, _, rfl, _, _, rfl, rfl, m0, ?_⟩⟩
      exact draw r t F0 _ r0 t0 (Int.le_refl _) (by omega) ((Gr.refl fs).mut fp (.inl pm)) fp upd_same
    · refine iteNo (by rw [decide_eq_true_eq]; exact hr0) ?_
      have er : r = 0 := by omega
      subst er
      -- turn
      refine ⟨_, rfl, .mk (.inl ⟨p, _, 1, _, rfl, rfl, .inl (.inl hp), rfl, ?_⟩)⟩
      refine ⟨_, rfl, _, _, rfl, rfl, _, rfl, p, _, 1, 1, rfl, rfl, hp, rfl, ?_⟩
      have g1 := (Gr.refl (B := [p]) fs).mut (o := .lst (List.set [.ref c, .int t, .int 0] 1 (.int (t + 1)))) fp (.inl pm)
      have hp1 : upd H p (.lst (List.set [.ref c, .int t, .int 0] 1 (.int (t + 1)))) p = some (.lst [.ref c, .int (t + 1), .int 0]) := upd_same
      generalize upd H p (.lst (List.set [.ref c, .int t, .int 0] 1 (.int (t + 1)))) = H1 at g1 hp1 ⊢
      have ix0 : ∀ {F' H' : Hp} {Q : VK}, H' p = some (.lst [.ref c, .int (t + 1), .int 0]) → Q (.ref c) H' → rIxD K (.ref p) (.int 0) H' Q := fun h q => .mk (.inl ⟨p, _, 0, _, rfl, rfl, .inl (.inl h), rfl, q⟩)
      -- cell
      obtain ⟨z, hz0⟩ : ∃ z, 20455 * t + 2125 = z := ⟨_, rfl⟩
      refine ⟨_, rfl, _, _, rfl, rfl, .inl ⟨by decide, by decide⟩, _, _, rfl, rfl, ?_⟩
      simp only [hz0]
      clear hz0
      refine ⟨_, rfl, .mk (.inl ⟨p, _, 0, _, rfl, rfl, .inl (.inl hp1), rfl, ?_⟩)⟩
      refine ⟨Nat.zero_le _, fun l hl => .mk ⟨.list (cells.map .int), .list [], hc.sees (fun a o e => ((g1.newM (o := .lst []) hl).fh a o e)), .lst (.inl (.inl upd_same)) .nil, ?_, rfl, _, rfl, ?_⟩⟩
      · exact PySem.W.ke_shaped_ints cells
      have g2 := g1.newM (o := .lst []) hl
      have hp2 : upd H1 l (.lst []) p = some (.lst [.ref c, .int (t + 1), .int 0]) := by rw [upd_ne (ne_of_none hp1 hl)]; exact hp1
      generalize upd H1 l (.lst []) = H2 at g2 hp2 ⊢
      have ev : PyData.eqv (.list (cells.map .int)) (.list []) = decide (cells = []) := by
        cases cells with
        | nil => simp [PyData.eqv, PyData.eqvAll]
        | cons a b => simp [PyData.eqv, PyData.eqvAll]
      rw [ev]
      have hix : ∀ {Q : VK}, Q (.ref c) H2 → rIxD K (.ref p) (.int 0) H2 Q := fun q => .mk (.inl ⟨p, _, 0, _, rfl, rfl, .inl (.inl hp2), rfl, q⟩)
      have hc2 := hc.ex g2.ff
      have two63 : ∀ x : Int, 0 ≤ x → x < 2147483649 → -(2 ^ 64) < x ∧ x < 2 ^ 64 := fun x h0 h1 => by omega
      by_cases hce : cells = []
      refine iteNo (by rw [decide_eq_true hce]; decide) ?_
      rotate_left
      refine iteYes (by rw [decide_eq_false hce]; rfl) ?_
      have lpos : 0 < cells.length := List.length_pos_iff.mpr hce
      refine ⟨_, rfl, hix ⟨_, rfl, .inl ⟨_, rfl, _, rfl, hix ?_⟩⟩⟩
      refine len_dp hc2 (.inl rfl) g2.fh ⟨_, _, rfl, rfl, by rw [List.length_map]; omega, ?_⟩
      obtain ⟨j, hj, ej⟩ : ∃ j, j < cells.length ∧ t % ((cells.map PyData.int).length : Int) = (j : Int) := by
        rw [List.length_map]
        have z1 := Int.emod_nonneg t (b := (cells.length : Int)) (by omega)
        have z2 := Int.emod_lt_of_pos t (b := (cells.length : Int)) (by omega)
        exact ⟨(t % (cells.length : Int)).toNat, by omega, by omega⟩
      refine ix_dp hc2 (.inl rfl) g2.fh (e := .int cells[j]) (by rw [ej]; exact atI_nat (by rw [List.getElem?_map, List.getElem?_eq_getElem hj]; rfl)) fun r hr => ?_
      rw [dp_int] at hr
      subst hr
      generalize cells[j] = z
      all_goals
        refine ⟨_, rfl, _, rfl, hix (len_dp hc2 (.inl rfl) g2.fh ⟨_, _, rfl, rfl, _, rfl, ?_⟩)⟩
        by_cases hg : (t < ((cells.map PyData.int).length : Int)) ∧ (10 : Int) ^ (18 : Int).toNat ≤ (if z < 0 then -z else z)
        · refine iteYes (decide_eq_true hg.1) ?_
          refine ⟨_, rfl, _, rfl, _, _, rfl, rfl, ⟨by decide, by decide, by decide⟩, _, _, rfl, rfl, _, rfl, ?_⟩
          refine iteYes (decide_eq_true hg.2) ?_
          refine ⟨_, rfl, _, rfl, _, _, rfl, rfl, ⟨by decide, by decide, by decide⟩, _, _, rfl, rfl, _, _, rfl, rfl, .inl ⟨by decide, by decide⟩, ?_⟩
          refine ⟨_, rfl, _, _, rfl, rfl, .inr ⟨_, rfl, _, _, rfl, rfl, ?_⟩⟩
          refine ⟨_, rfl, .inl ⟨_, rfl, _, rfl, _, _, rfl, rfl, ⟨m0, m1⟩, _, rfl, p, _, 2, 2, rfl, rfl, hp2, rfl, ?_⟩⟩
          refine ⟨_, rfl, .inl ⟨_, rfl, _, rfl, _, _, rfl, rfl, m0, ?_⟩⟩
          refine draw _ (t + 1) F0 _ ?_ (by omega) (by omega) (Int.le_refl _) (g2.mut fp (.inl pm)) fp upd_same
          have hg2 := hg.2
          have e18 : (10 : Int) ^ (18 : Int).toNat = 1000000000000000000 := by decide
          rw [e18] at hg2 ⊢
          split <;> omega
        · by_cases hl1 : t < ((cells.map PyData.int).length : Int)
          refine iteYes (decide_eq_true hl1) ?_
          refine ⟨_, rfl, _, rfl, _, _, rfl, rfl, ⟨by decide, by decide, by decide⟩, _, _, rfl, rfl, _, rfl, ?_⟩
          refine iteNo (by rw [decide_eq_true_eq]; exact fun h => hg ⟨hl1, h⟩) ?_
          rotate_left
          refine iteNo (by rw [decide_eq_true_eq]; exact hl1) ?_
          refine iteNo (by decide) ?_
          all_goals
            have z1 := Int.emod_nonneg z (b := 2147483549) (by decide)
            have z2 := Int.emod_lt_of_pos z (b := 2147483549) (by decide)
            refine ⟨_, rfl, .inl ⟨_, rfl, _, _, rfl, rfl, (by show (0 : Int) < 2147483549; decide), _, rfl, _, _, rfl, rfl, .inl ⟨by decide, by decide⟩, _, _, rfl, rfl, _, _, rfl, rfl, _, _, rfl, rfl, ⟨by decide, by decide, by omega⟩, .inl ⟨_, rfl, _, _, rfl, rfl, (by show (0 : Int) < 2147483629; decide), ?_⟩⟩⟩
            have m2 := Int.emod_nonneg ((z % 2147483549 + 20455 * t + 2125) ^ (5 : Int).toNat) (b := 2147483629) (by decide)
            have m3 := Int.emod_lt_of_pos ((z % 2147483549 + 20455 * t + 2125) ^ (5 : Int).toNat) (b := 2147483629) (by decide)
            obtain ⟨m, hm⟩ : ∃ m, (z % 2147483549 + 20455 * t + 2125) ^ (5 : Int).toNat % 2147483629 = m := ⟨_, rfl⟩
            rw [hm] at m2 m3
            simp only [hm]
            have b1 : 0 ≤ m * (2 * t + 6133) := Int.mul_nonneg m2 (by omega)
            have b2 : m * (2 * t + 6133) ≤ 2147483629 * 2006133 := Int.mul_le_mul (by omega) (by omega) (by omega) (by decide)
            have b3 : 0 ≤ 30197 * t * t := Int.mul_nonneg (by omega) t0
            have b4 : 30197 * t * t ≤ 30197000000 * 1000000 := Int.mul_le_mul (by omega) t6 t0 (by decide)
            refine ⟨_, rfl, _, rfl, _, _, rfl, rfl, .inl ⟨by decide, by decide⟩, _, _, rfl, rfl, _, _, rfl, rfl, .inl ⟨by omega, by omega⟩, _, rfl, _, _, rfl, rfl, .inl ⟨by decide, by decide⟩, _, rfl, _, _, rfl, rfl, .inr ⟨by omega, by omega⟩, _, _, rfl, rfl, _, _, rfl, rfl, _, _, rfl, rfl,
              ⟨by decide, by decide, by omega⟩, .inl ⟨_, rfl, _, _, rfl, rfl, (by show (0 : Int) < 2147483587; decide), ?_⟩⟩
            refine ⟨_, rfl, _, _, rfl, rfl, ⟨by decide, by decide⟩, .inl ⟨_, rfl, _, rfl, _, _, rfl, rfl, m0, ?_⟩⟩
            exact q _ (t + 1) F0 _ (Int.emod_nonneg _ (by omega)) (Int.emod_lt_of_pos _ m0) (by omega) (Int.le_refl _) g2 ⟨fp, c, 0, cells, hp2, hc, lc, Int.le_refl _, by omega⟩
end
end TW
set_option Elab.async false
set_option linter.all false
set_option maxRecDepth 100000
set_option maxHeartbeats 8000000
/-! what is drawn -/
namespace TW
open PySem PySem.Spec PyProof.Rows L2 RZ StX
open Evl (Ex)
/-- a turn whose test is not known ahead -/
def TurnQ (B : List Addr) (g : TG) (tt : TT) (te : TE) (vs : List Nat) (σ : L2.St) (x : V) (F H : Hp) (R : V → Hp → Hp → Prop) (R0 : Hp → Hp → Prop) : Prop :=
  ∀ (Yes : V → Hp → Prop) (No : Hp → Prop), (∀ F3 H3, Gr B F H F3 H3 → R0 F3 H3 → No H3) → (∀ y F3 H3, Gr B F H F3 H3 → R y F3 H3 → Yes y H3) →
    g x (wipe σ vs) H fun σ2 H2 => wipe σ2 vs = wipe σ vs ∧ tt σ2 H2 fun b H3 => if b = true then te σ2 H3 Yes else No H3
section
variable {K : PySem.W.Frag} {J : It} {n : Nat} {G : Hp → Prop} {Y : Nat → Hp → V → Hp → Prop} {g : TG} {tt : TT} {te : TE} {vs : List Nat} {σ : L2.St} {F H1 : Hp} {D : Addr} {Qd : Hp → Prop}
/-- a comprehension whose test is drawn, with a state of its own (Pv: turn, what is made, finished objects, heap) -/
theorem lc_stQ {B : List Addr} (w : Walk J n G Y) (sees : Sees F H1) (hB : ∀ b ∈ B, H1 b ≠ none) (Pv : Nat → List V → Hp → Hp → Prop) (hP : ∀ i acc F' H' D o, Pv i acc F' H' → H1 D = none → Pv i acc F' (upd H' D o))
    (hG : ∀ i acc F' H', i ≤ n → Gr B F H1 F' H' → Pv i acc F' H' → G H') (h0 : Pv 0 [] F H1) (hz : n ≤ 100000)
    (hs : ∀ i acc x F' H' H'', i < n → acc.length ≤ i → Gr B F H1 F' H' → Pv i acc F' H' → Y i H' x H'' → ∃ F'', Gr B F' H' F'' H'' ∧ TurnQ B g tt te vs σ x F'' H'' (fun y F3 H3 => Pv (i + 1) (acc ++ [y]) F3 H3) (fun F3 H3 => Pv (i + 1) acc F3 H3))
    (hD : H1 D = none) (q : ∀ acc F' H', Gr B F H1 F' H' → F' D = none → H' D = some (.lst acc) → Pv n acc F' H' → Qd H') : LcW J g tt te vs σ H1 D Qd := by
  have lz : 100000 < sizeLine := by rw [sizeLine_eq]; decide
  have nB : D ∉ B := fun h => hB D h hD
  refine lc_it w (fun i H' => ∃ acc F', acc.length ≤ i ∧ Gr B F H1 F' H' ∧ F' D = none ∧ H' D = some (.lst acc) ∧ Pv i acc F' H')
    ⟨[], F, Nat.le_refl _, (Gr.refl sees).newM hD, sees.dm hD, upd_same, hP _ _ _ _ _ _ h0 hD⟩ (fun i H' hi ⟨acc, F', _, gr, _, _, p⟩ => hG i acc F' H' hi gr p) (fun i x H' H'' hi ⟨acc, F', hl, gr, fD, hDc, p⟩ hy => ?_) fun H' ⟨acc, F', _, gr, fD, hDc, p⟩ => q acc F' H' gr fD hDc p
  obtain ⟨F'', g1, t⟩ := hs i acc x F' H' H'' hi hl gr p hy
  have g1' := gr.trans g1 fun b hb => .inl hb
  have nn : H' D ≠ none := by rw [hDc]; exact fun z => nomatch z
  refine t _ _ (fun F3 H3 g3 p3 => ⟨acc, F3, by omega, g1'.trans g3 fun b hb => .inl hb, ?_, ?_, p3⟩) fun y F3 H3 g3 p3 => ⟨acc, ?_, by omega, acc ++ [y], F3, by simp; omega, (g1'.trans g3 fun b hb => .inl hb).mut ?_ (.inr hD), ?_, upd_same, hP _ _ _ _ _ _ p3 hD⟩
  · exact (g1.trans g3 fun b hb => .inl hb).none' fD nn
  · exact (g1.trans g3 fun b hb => .inl hb).hh D _ nB hDc
  · exact (g1.trans g3 fun b hb => .inl hb).hh D _ nB hDc
  · exact (g1.trans g3 fun b hb => .inl hb).none' fD nn
  · exact (g1.trans g3 fun b hb => .inl hb).none' fD nn
end
def spSome (K : PySem.W.Frag) : Sp := fun vs H Q _ => ∃ (F : Hp) (p : Addr) (v : V) (d : PyData) (ds : List PyData) (t : Int), vs = [.ref p, v] ∧ Sees F H ∧ PenAt K F H p t ∧ t + ds.length ≤ 1000000 ∧ Dp K F v d ∧ isSeq d ds ∧ ds.length ≤ 1000 ∧
  ∀ (L : Addr) (xs : List V) (es : List PyData) (t' : Int) F' H', es.Sublist ds → F' L = some (.lst xs) → DpAll K F' xs es → t ≤ t' → t' ≤ t + ds.length → Gr [p] F H F' H' → PenAt K F' H' p t' → Q (.ref L) H'
theorem PenAt.at {K : PySem.W.Frag} {F H : Hp} {p : Addr} {t : Int} (h : PenAt K F H p t) : ∃ o, H p = some o := by
  obtain ⟨_, c, r, cells, h1, _⟩ := h
  exact ⟨_, h1⟩
theorem PenAt.upd' {K : PySem.W.Frag} {F H : Hp} {p D : Addr} {t : Int} {o : HO} (h : PenAt K F H p t) (n : p ≠ D) : PenAt K F (upd H D o) p t := by
  obtain ⟨f, c, r, cells, h1, h2⟩ := h
  exact ⟨f, c, r, cells, by rw [upd_ne n]; exact h1, h2⟩
/-- what grows without the pen -/
theorem PenAt.gr {K : PySem.W.Frag} {B : List Addr} {F H F' H' : Hp} {p : Addr} {t : Int} (h : PenAt K F H p t) (g : Gr B F H F' H') (n : p ∉ B) : PenAt K F' H' p t := by
  obtain ⟨f, c, r, cells, h1, h2, h3⟩ := h
  exact ⟨g.none' f (by rw [h1]; exact fun z => nomatch z), c, r, cells, g.hh p _ n h1, h2.ex g.ff, h3⟩
def flat1 : PyData → Bool
  | .int _ => true
  | .str x => PyData.strOk x
  | _ => false
theorem flat1_lay : ∀ {ds : List PyData}, (∀ d ∈ ds, flat1 d = true) → PyData.canLayAll0 ds = true ∧ PyData.depthAll ds ≤ 1
  | [], _ => ⟨by simp [PyData.canLayAll0], by simp [PyData.depthAll]⟩
  | d :: r, h => by
    obtain ⟨h1, h2⟩ := flat1_lay (ds := r) fun e he => h e (List.mem_cons_of_mem _ he)
    have hd := h d List.mem_cons_self
    cases d <;> simp [flat1] at hd <;> simp [PyData.canLayAll0, PyData.depthAll, PyData.canLay0, PyData.depth, h1, hd] <;> omega
theorem flat1_shaped {ds : List PyData} (h : ∀ d ∈ ds, flat1 d = true) : SeqAt.shaped (.list ds) = true := by
  obtain ⟨h1, h2⟩ := flat1_lay h
  simp [SeqAt.shaped, PyData.canLay0, PyData.depth, h1]
  omega
theorem eqv_nil (ds : List PyData) : PyData.eqv (.list ds) (.list []) = decide (ds = []) := by
  cases ds with
  | nil => simp [PyData.eqv, PyData.eqvAll]
  | cons a b => simp [PyData.eqv, PyData.eqvAll]
theorem DpAll.erase {K : PySem.W.Frag} {F : Hp} {xs : List V} {ds : List PyData} (h : DpAll K F xs ds) (k : Nat) : DpAll K F (xs.eraseIdx k) (ds.eraseIdx k) := by
  rw [List.eraseIdx_eq_take_drop_succ, List.eraseIdx_eq_take_drop_succ]
  exact (DpAll.take k h).append (DpAll.drop (k + 1) h)
def spShuf (K : PySem.W.Frag) : Sp := fun vs H Q _ => ∃ (F : Hp) (p : Addr) (v : V) (d : PyData) (ds : List PyData) (t : Int), vs = [.ref p, v] ∧ Sees F H ∧ PenAt K F H p t ∧ t + ds.length ≤ 1000000 ∧ Dp K F v d ∧ isSeq d ds ∧ ds.length ≤ 1000 ∧ (∀ e ∈ ds, flat1 e = true) ∧
  ∀ (r : V) (es : List PyData) (t' : Int) F' H', es.Perm ds → Dp K F' r (.list es) → t ≤ t' → t' ≤ t + ds.length → Gr [p] F H F' H' → PenAt K F' H' p t' → Q r H'
def spPick (K : PySem.W.Frag) : Sp := fun vs H Q _ => ∃ (F : Hp) (p : Addr) (v : V) (d : PyData) (ds : List PyData) (t : Int), vs = [.ref p, v] ∧ Sees F H ∧ PenAt K F H p t ∧ t ≤ 1000000 ∧ Dp K F v d ∧ isSeq d ds ∧ 0 < ds.length ∧ ds.length ≤ 100000 ∧
  ∀ (r : V) (e : PyData) (t' : Int) F' H', e ∈ ds → Dp K F' r e → t ≤ t' → t' ≤ t + 1 → Gr [p] F H F' H' → PenAt K F' H' p t' → Q r H'
section
variable {P : Program} {w : World} {K : PySem.W.Frag} {mg : Str → Option Value} {base : Heap}
theorem ok_pen {f : Addr} {fd : FuncData} (F : Fun K "_law_pen" "_law_pen" s__law_pen f fd) (T : Txt mg) : FnOk P w K mg base CX0 1 f fd ["script"] (spPen K) := by
  refine F.ok sc__law_pen (fun vs H Q E h => ?_) (fun cdv A outer s H vs Q E hr h => ?_)
  · obtain ⟨F0, v, ns, rfl, _⟩ := h
    rfl
  · obtain ⟨F0, v, ns, rfl, fs, hv, q⟩ := h
    refine ⟨_, (pss_one (ps_ret (pe_lst (pa_cons (pe_lc (own := [("cell", 1)]) rfl sc__law_pen.nd (zseq K (pe_slice (sl_LA K) (pv 0) po_none (po_some pe_int))) (blkOk_by (N := sc__law_penN) (sc := defScope s__law_pen) (by decide +kernel)) (fun _ _ _ _ _ => (zg (i := 1) sc__law_pen.nd)) (fun _ _ _ _ _ => pts_nil) (fun _ _ _ _ _ => (pe_callTy call_int1 (by rfl) T.int bt_int (pa_cons (pv 1) pa_nil)))) (pa_cons pe_int (pa_cons pe_int pa_nil)))))), ?_⟩
    refine ⟨v, rfl, _, rfl, slQ_dp hv (.inl rfl) fs fun r e F1 H1 g1 tw hr1 => ?_⟩
    rw [show cutD (ns.map PyData.int) none (some 63) = (ns.take 63).map PyData.int by rw [show (63 : Int) = ((63 : Nat) : Int) from rfl, cutD_to, List.map_take]] at tw
    refine seq_walk hr1 tw.r g1.fh fun J xs G w1 hG hxs hlen D hD => ?_
    refine lc_seqM (bs := ns.take 63) (enc := .int) (f := .int) w1 hxs g1.fh hG (by rw [List.length_take]; omega) (fun b y F' H' hb g2 hy => turn1 rfl fun Yes h => ?_) hD fun acc F2 H2 g2 fD hDc hacc => ?_
    · rw [dp_int] at hy
      subst hy
      exact ⟨_, rfl, .inl ⟨_, rfl, h _ _ _ (Gr.refl g2.fh) (.int b)⟩⟩
    · refine ⟨by show 3 ≤ sizeLine; rw [sizeLine_eq]; decide, fun p hp => ?_⟩
      have gd := (g1.trans g2).done (g1.dm _ hD) fD hDc
      have gp := gd.newM (o := .lst [.ref D, .int 0, .int 0]) hp
      refine q p _ _ (gd.dm p hp) gp ⟨gd.fh.dm hp, D, 0, ns.take 63, upd_same, .lst (.inl (.inl upd_same)) (hacc.ex (Ex.new fD)), by rw [List.length_take]; omega, Int.le_refl _, Int.le_refl _⟩
theorem ok_pick {f : Addr} {fd : FuncData} (F : Fun K "_law_pick" "_law_pick" s__law_pick f fd) (T : Txt mg) (C__law_draw : Cal P w K mg base "_law_draw" 1 ["pen", "many"] [] (spDraw K)) : FnOk P w K mg base CX0 2 f fd ["pen", "some"] (spPick K) := by
  refine F.ok sc__law_pick (fun vs H Q E h => ?_) (fun cdv A outer s H vs Q E hr h => ?_)
  · obtain ⟨F0, p, v, d, ds, t, rfl, _⟩ := h
    rfl
  · obtain ⟨F0, p, v, d, ds, t, rfl, fs, hp, ht, hv, hq, l0, l1, q⟩ := h
    refine ⟨_, (pss_one (ps_ret (pe_ix (ix_LT K) (pv 1) (pe_cal C__law_draw (hr.mono (by decide)) (pa_cons (pv 0) (pa_cons (pe_callB (cr_len K) (by rfl) T.len bt_len (pa_cons (pv 1) pa_nil)) pa_nil))) (fun _ _ => rfl)))), ?_⟩
    refine ⟨_, rfl, _, rfl, _, rfl, len_dp hv hq fs ⟨F0, p, _, t, rfl, fs, hp, ht, by omega, by omega, fun i t' F1 H1 i0 i1 t1 t2 g1 hp1 => ?_⟩⟩
    obtain ⟨j, rfl⟩ : ∃ j : Nat, i = (j : Int) := ⟨i.toNat, by omega⟩
    have hj : j < ds.length := by omega
    refine ix_dp (hv.ex g1.ff) hq g1.fh (e := ds[j]) (atI_nat (List.getElem?_eq_getElem hj)) fun r hr => ?_
    exact q r _ t' F1 H1 (List.getElem_mem hj) hr t1 t2 g1 hp1
theorem ok_some {f : Addr} {fd : FuncData} (F : Fun K "_law_some" "_law_some" s__law_some f fd) (C__law_draw : Cal P w K mg base "_law_draw" 1 ["pen", "many"] [] (spDraw K)) : FnOk P w K mg base CX0 2 f fd ["pen", "some"] (spSome K) := by
  refine F.ok sc__law_some (fun vs H Q E h => ?_) (fun cdv A outer s H vs Q E hr h => ?_)
  · obtain ⟨F0, p, v, d, ds, t, rfl, _⟩ := h
    rfl
  · obtain ⟨F0, p, v, d, ds, t, rfl, fs, hp, ht, hv, hq, l1, q⟩ := h
    refine ⟨_, (pss_one (ps_ret (pe_lc (own := [("one", 2)]) rfl sc__law_some.nd (zseq K (pv 1)) (blkOk_by (N := sc__law_someN) (sc := defScope s__law_some) (by decide +kernel)) (fun _ _ _ _ _ => (zg (i := 2) sc__law_some.nd)) (fun _ _ _ _ _ => (pts_one (pt_cmpR op_eq (pe_cal C__law_draw (hr.mono (by decide)) (pa_cons (pv 0) (pa_cons pe_int pa_nil))) pe_int (nomark _)))) (fun _ _ _ _ _ => (pv 2))))), ?_⟩
    obtain ⟨op, hpo⟩ := hp.at
    refine ⟨_, rfl, seq_walk hv hq fs fun J xs G w1 hG hxs hlen D hD => ?_⟩
    refine lc_stQ (B := [p]) w1 fs (fun b hb => by rw [List.mem_singleton.mp hb, hpo]; exact fun z => nomatch z) (fun i acc F' H' => ∃ t' es, PenAt K F' H' p t' ∧ t ≤ t' ∧ t' ≤ t + i ∧ DpAll K F' acc es ∧ es.Sublist (ds.take i)) (fun i acc F' H' D o ⟨t', es, h1, h2⟩ hDn => ⟨t', es, h1.upd' (ne_of_none hpo hDn), h2⟩)
      (fun i acc F' H' _ g _ => hG H' (fun a o e => g.fh a o (g.ff a o e))) ⟨t, [], hp, Int.le_refl _, by omega, .nil, by simp⟩ (by omega) (fun i acc x F' H' H'' hi hl gr ⟨t', es, h1, h2, h3, h4, h5⟩ y => ?_) hD fun acc F' H' gr fD hDc ⟨t', es, h1, h2, h3, h4, h5⟩ => ?_
    · obtain ⟨rfl, hxi⟩ := y
      obtain ⟨dx, k1, k2⟩ := hxs.get hxi
      have tk : ds.take (i + 1) = ds.take i ++ [dx] := by rw [List.take_add_one, k1]; rfl
      refine ⟨F', Gr.refl gr.fh, fun Yes No hNo hYes => ⟨rfl, _, rfl, F', p, 2, t', rfl, gr.fh, h1, by omega, by decide, by decide, fun z t2 F3 H3 z0 z1 u1 u2 g3 hp3 => ⟨rfl, _, rfl, ?_⟩⟩⟩
      by_cases e : V.int z = V.int 0
      · refine iteYes (decide_eq_true e) ⟨_, rfl, hYes x F3 H3 g3 ⟨t2, es ++ [dx], hp3, by omega, by omega, (h4.ex g3.ff).append (.cons ((k2.ex gr.ff).ex g3.ff) .nil), ?_⟩⟩
        rw [tk]
        exact h5.append (List.Sublist.refl _)
      · refine iteNo (by rw [decide_eq_true_eq]; exact e) (hNo F3 H3 g3 ⟨t2, es, hp3, by omega, by omega, h4.ex g3.ff, ?_⟩)
        rw [tk]
        exact h5.trans (List.sublist_append_left _ _)
    · rw [hlen, List.take_length] at h5
      have gd := gr.done hD fD hDc
      refine q D _ es t' _ _ h5 upd_same (h4.ex (Ex.new fD)) h2 (by rw [hlen] at h3; exact h3) gd ?_
      obtain ⟨f, c, r, cells, a1, a2, a3⟩ := h1
      exact ⟨by rw [upd_ne (ne_of_none hpo hD)]; exact f, c, r, cells, a1, a2.ex (Ex.new fD), a3⟩
theorem ok_shuffled {f : Addr} {fd : FuncData} (F : Fun K "_law_shuffled" "_law_shuffled" s__law_shuffled f fd) (T : Txt mg) (C__law_draw : Cal P w K mg base "_law_draw" 1 ["pen", "many"] [] (spDraw K)) : FnOk P w K mg base CX0 2 f fd ["pen", "some"] (spShuf K) := by
  refine F.ok sc__law_shuffled (fun vs H Q E h => ?_) (fun cdv A outer s H vs Q E hr h => ?_)
  · obtain ⟨F0, p, v, d, ds, t, rfl, _⟩ := h
    rfl
  · obtain ⟨F0, p, v, d, ds, t, rfl, fs, hp, ht, hv, hq, l1, fl, q⟩ := h
    have hu := hu_of hr
    have hu64 := hr.units
    have lz : 100000 < sizeLine := by rw [sizeLine_eq]; decide
    refine ⟨_, (pss_cons (zpar (i := 2) (j := 3) sc__law_shuffled.nd (pa_cons (pe_callTy (cr_list K) (by rfl) T.list bt_list (pa_cons (pv 1) pa_nil)) (pa_cons (pe_lst pa_nil) pa_nil)))
      (pss_cons (ps_while PassesOwn.never (pt_cmpR (op_neDD K hu64) (pv 2) (pe_lst pa_nil) (nomark _))
        (pss_one (ps_expr (pe_bm PySem.F.plainAttrs_list PySem.F.slot_list_append PySem.F.type_list_append mt_append (pv 3) (pa_cons (pe_bm PySem.F.plainAttrs_list PySem.F.slot_list_pop PySem.F.type_list_pop mt_popAt (pv 2) (pa_cons (pe_cal C__law_draw (hr.mono (by decide)) (pa_cons (pv 0) (pa_cons (pe_callB (cr_len K) (by rfl) T.len bt_len (pa_cons (pv 2) pa_nil)) pa_nil))) pa_nil)) pa_nil)))))
      (pss_one (ps_ret (pv 3))))), ?_⟩
    obtain ⟨op, hpo⟩ := hp.at
    refine ⟨_, rfl, list_dp hv hq fs fun R ys F1 H1 g1 nR fR1 hR1 hys => ?_⟩
    refine ⟨Nat.zero_le _, fun L hL => ⟨_, _, rfl, ?_⟩⟩
    have g2 := g1.newM (o := .lst []) hL
    have nL : H L = none := g1.dm _ hL
    have pR : p ≠ R := ne_of_none hpo nR
    have pL : p ≠ L := ne_of_none hpo nL
    have RL : R ≠ L := ne_of_none hR1 hL
    have hR2 : upd H1 L (.lst []) R = some (.lst ys) := by rw [upd_ne RL]; exact hR1
    have hL2 : upd H1 L (.lst []) L = some (.lst []) := upd_same
    have hp2 := hp.gr g2 (by simp)
    have fL1 := g1.fh.dm hL
    generalize upd H1 L (.lst []) = H2 at g2 hR2 hL2 hp2 ⊢
    refine ⟨fun m σ' H' => ∃ (F' : Hp) (xs fs' : List V) (rs es : List PyData) (t' : Int), σ' = [some (.ref p), some v, some (.ref R), some (.ref L)] ∧ Gr [p, R, L] F1 H2 F' H' ∧ F' R = none ∧ F' L = none ∧ H' R = some (.lst xs) ∧ H' L = some (.lst fs') ∧ DpAll K F' xs rs ∧ DpAll K F' fs' es ∧ (rs ++ es).Perm ds ∧
        PenAt K F' H' p t' ∧ t ≤ t' ∧ t' ≤ t + es.length ∧ m = rs.length,
      ⟨_, F1, ys, [], ds, [], t, rfl, Gr.refl g2.fh, fR1, fL1, hR2, hL2, hys, .nil, by simp, hp2, Int.le_refl _, by simp, rfl⟩, ?_⟩
    rintro m σ' H' ⟨F', xs, fs', rs, es, t', rfl, g, fR', fL', hR', hL', hxs, hes, pm, hp', t1, t2, em⟩
    have len := pm.length_eq
    rw [List.length_append] at len
    have frs : ∀ e ∈ rs, flat1 e = true := fun e he => fl e (pm.mem_iff.mp (by simp [he]))
    refine ⟨_, rfl, Nat.zero_le _, fun l hl => .mk ⟨.list rs, .list [], ?_, .lst (.inl (.inl upd_same)) .nil, flat1_shaped frs, rfl, _, rfl, ?_⟩⟩
    · exact .lst (.inl (.inl (by rw [upd_ne (ne_of_none hR' hl)]; exact hR'))) (DpAll.sees (g.newM (o := .lst []) hl).fh hxs)
    rw [eqv_nil]
    have ga := g.newM (o := .lst []) hl
    have hRa : upd H' l (.lst []) R = some (.lst xs) := by rw [upd_ne (ne_of_none hR' hl)]; exact hR'
    have hLa : upd H' l (.lst []) L = some (.lst fs') := by rw [upd_ne (ne_of_none hL' hl)]; exact hL'
    have hpa : PenAt K F' (upd H' l (.lst [])) p t' := hp'.upd' (ne_of_none hp'.at.choose_spec hl)
    generalize upd H' l (.lst []) = Ha at ga hRa hLa hpa ⊢
    have gB : ∀ {F'' H''}, Gr [p, R, L] F1 H2 F'' H'' → Gr [p] F0 H F'' H'' := fun g => (g2.mono (B' := [p]) (fun b hb => absurd hb (by simp))).trans g fun b hb => by
      rcases List.mem_cons.mp hb with rfl | hb
      · exact .inl (by simp)
      rcases List.mem_cons.mp hb with rfl | hb
      · exact .inr nR
      · rw [List.mem_singleton.mp hb]; exact .inr nL
    by_cases hrs : rs = []
    · refine iteNo (by rw [decide_eq_true hrs]; decide) ?_
      subst hrs
      have gd := (gB ga).done nL fL' hLa
      refine ⟨_, rfl, q (.ref L) es t' _ _ pm (.lst (.inl (.inl upd_same)) (hes.ex (Ex.new fL'))) t1 (by simp at len; omega) gd ?_⟩
      obtain ⟨f, c, r, cells, a1, a2, a3⟩ := hpa
      exact ⟨by rw [upd_ne pL]; exact f, c, r, cells, a1, a2.ex (Ex.new fL'), a3⟩
    · refine iteYes (by rw [decide_eq_false hrs]; rfl) ?_
      have lpos : 0 < rs.length := List.length_pos_iff.mpr hrs
      have lx := hxs.length
      refine ⟨_, fun σ' H' h => h, ?_⟩
      refine ⟨_, rfl, .inl ⟨rfl, _, .inl (.inl hLa)⟩, _, rfl, .inl ⟨rfl, _, .inl (.inl hRa)⟩, _, rfl, _, rfl, .mk ⟨R, xs, rfl, .inl (.inl (.inl hRa)), ?_⟩⟩
      refine ⟨F', p, _, t', rfl, ga.fh, hpa, by omega, by omega, by omega, fun i t3 F3 H3 i0 i1 u1 u2 g3 hp3 => ?_⟩
      obtain ⟨j, rfl⟩ : ∃ j : Nat, i = (j : Int) := ⟨i.toNat, by omega⟩
      have hj : j < xs.length := by omega
      have hjr : j < rs.length := by omega
      have hR3 : H3 R = some (.lst xs) := g3.hh R _ (by simp [Ne.symm pR]) hRa
      have hL3 : H3 L = some (.lst fs') := g3.hh L _ (by simp [Ne.symm pL]) hLa
      have fR3 := g3.none' fR' (by rw [hRa]; exact fun z => nomatch z)
      have fL3 := g3.none' fL' (by rw [hLa]; exact fun z => nomatch z)
      refine ⟨R, xs, _, j, xs[j], rfl, rfl, hR3, by omega, by omega, (ixN_seq (Evl.ixN_nat hj)).1, List.getElem?_eq_getElem hj, ?_⟩
      have hL4 : upd H3 R (.lst (xs.eraseIdx j)) L = some (.lst fs') := by rw [upd_ne (Ne.symm RL)]; exact hL3
      refine ⟨L, fs', _, rfl, rfl, hL4, by have := hes.length; omega, ?_⟩
      have gm := ((ga.trans g3 (fun b hb => .inl (by rw [List.mem_singleton.mp hb]; simp))).mut (o := .lst (xs.eraseIdx j)) fR3 (.inl (by simp))).mut (o := .lst (fs' ++ [xs[j]])) fL3 (.inl (by simp))
      have hgj : DpAll K F3 [xs[j]] [rs[j]] := by
        obtain ⟨d', h1, h2⟩ := hxs.get (List.getElem?_eq_getElem hj)
        rw [List.getElem?_eq_getElem hjr] at h1
        cases h1
        exact .cons (h2.ex g3.ff) .nil
      refine ⟨(rs.eraseIdx j).length, by rw [List.length_eraseIdx_of_lt hjr]; omega, F3, _, _, rs.eraseIdx j, es ++ [rs[j]], t3, rfl, gm, fR3, fL3, by rw [upd_ne RL]; exact upd_same, upd_same, DpAll.erase (hxs.ex g3.ff) j, (hes.ex g3.ff).append hgj, ?_, (hp3.upd' pR).upd' pL, by omega, by simp; omega, rfl⟩
      have z : (rs[j] :: rs.eraseIdx j).Perm rs := by
        have e : rs.take j ++ rs[j] :: rs.drop (j + 1) = rs := by rw [List.getElem_cons_drop, List.take_append_drop]
        rw [List.eraseIdx_eq_take_drop_succ]
        have z := (List.perm_middle (a := rs[j]) (l₁ := rs.take j) (l₂ := rs.drop (j + 1))).symm
        rw [e] at z
        exact z
      refine List.Perm.trans ?_ pm
      refine List.Perm.trans ?_ (z.append_right es)
      rw [← List.append_assoc]
      exact (List.perm_append_comm (l₁ := rs.eraseIdx j ++ es) (l₂ := [rs[j]]))
end
end TW
set_option Elab.async false
set_option linter.all false
set_option maxRecDepth 100000
set_option maxHeartbeats 8000000
/-! drawn arrows -/
namespace TW
open PySem PySem.Spec PyProof.Rows L2 RZ StX
open Evl (Ex)
structure rNiDD (K : PySem.W.Frag) (x y : V) (H : Hp) (Q : VK) : Prop where
  r : rNotInD K x y H Q
theorem op_niDD {X : Cx} (K : PySem.W.Frag) (hu : X.A.units + 65 < cLine) (hK : X.K = K := by rfl) : OpR X (compareOp .NotIn) (rNiDD K) := by subst hK; exact fun pins s σ H x y v u Q I rx ry h => op_notInD hu pins s σ H x y v u Q I rx ry h.r
theorem hu65_of {A : Around} {k : Nat} (hr : Room k A) : A.units + 65 < cLine := by have := hr.un; omega
theorem sees_lst {F H : Hp} {a : Addr} {xs : List V} (s : Sees F H) (h : F a = some (.lst xs)) : H a = some (.lst xs) := (s a _ h).resolve_right fun ⟨_, _, e, _⟩ => nomatch e
theorem encA_lay : ∀ {A : List Arr}, (∀ a ∈ A, PyData.strOk a.2.1 = true) → PyData.canLayAll0 (A.map encA) = true ∧ PyData.depthAll (A.map encA) ≤ 2
  | [], _ => ⟨by simp [PyData.canLayAll0], by simp [PyData.depthAll]⟩
  | a :: r, h => by
    obtain ⟨h1, h2⟩ := encA_lay (A := r) fun e he => h e (List.mem_cons_of_mem _ he)
    have ha := h a List.mem_cons_self
    simp [PyData.canLayAll0, PyData.depthAll, PyData.canLay0, PyData.depth, h1, ha, encA]
    omega
theorem encAs_shaped {A : List Arr} (h : ∀ a ∈ A, PyData.strOk a.2.1 = true) : SeqAt.shaped (.list (A.map encA)) = true := by
  obtain ⟨h1, h2⟩ := encA_lay h
  simp [SeqAt.shaped, PyData.canLay0, PyData.depth, h1]
  omega
theorem encA_any (A : List Arr) (a : Arr) : ((A.map encA).any fun z => PyData.eqv z (encA a)) = decide (a ∈ A) := by
  rw [List.any_map]
  induction A with
  | nil => rfl
  | cons b r ih =>
    rw [List.any_cons, ih]
    show (PyData.eqv (encA b) (encA a) || _) = _
    rw [encA_eqv]
    simp [eq_comm, Bool.decide_or]
def spArrows (K : PySem.W.Frag) : Sp := fun vs H Q _ => ∃ (F : Hp) (p : Addr) (v : V) (sounds : List Str) (many : Int) (number : Nat) (t : Int), vs = [.ref p, .int many, v, .int number] ∧ Sees F H ∧ PenAt K F H p t ∧ t + 3 * number ≤ 1000000 ∧ 0 < many ∧ many < 1000 ∧ number ≤ 1000 ∧
  Dp K F v (.list (sounds.map .str)) ∧ 0 < sounds.length ∧ sounds.length ≤ 1000 ∧ (∀ z ∈ sounds, PyData.strOk z = true) ∧
  ∀ (r : V) (A : List Arr) (t' : Int) F' H', A.Nodup → A.length ≤ number → (∀ a ∈ A, 0 ≤ a.1 ∧ a.1 < many ∧ a.2.1 ∈ sounds ∧ 0 ≤ a.2.2 ∧ a.2.2 < many) → Dp K F' r (.list (A.map encA)) → t ≤ t' → t' ≤ t + 3 * number → Gr [p] F H F' H' → PenAt K F' H' p t' → Q r H'
section
variable {P : Program} {w : World} {K : PySem.W.Frag} {mg : Str → Option Value} {base : Heap}
theorem ok_arrows {f : Addr} {fd : FuncData} (F : Fun K "_law_arrows" "_law_arrows" s__law_arrows f fd) (T : Txt mg) (C__law_draw : Cal P w K mg base "_law_draw" 1 ["pen", "many"] [] (spDraw K)) (C__law_pick : Cal P w K mg base "_law_pick" 2 ["pen", "some"] [] (spPick K)) :
    FnOk P w K mg base CX0 3 f fd ["pen", "many", "sounds", "number"] (spArrows K) := by
  refine F.ok sc__law_arrows (fun vs H Q E h => ?_) (fun cdv A outer s H vs Q E hr h => ?_)
  · obtain ⟨F0, p, v, sounds, many, number, t, rfl, _⟩ := h
    rfl
  · obtain ⟨F0, p, v, sounds, many, number, t, rfl, fs, hp, ht, m0, m1, n1, hv, s0, s1, sOk, q⟩ := h
    have hu65 := hu65_of hr
    have lz : 100000 < sizeLine := by rw [sizeLine_eq]; decide
    refine ⟨_, (pss_cons (zs (i := 4) sc__law_arrows.nd (pe_lst pa_nil))
      (pss_cons (ps_for PassesOwn.never rfl (pi_range1 rfl T.range (pa_cons (pv 3) pa_nil)) (zg (i := 5) sc__law_arrows.nd)
        (pss_cons (zs (i := 6) sc__law_arrows.nd (pe_tup (pa_cons (pe_cal C__law_draw (hr.mono (by decide)) (pa_cons (pv 0) (pa_cons (pv 1) pa_nil))) (pa_cons (pe_cal C__law_pick (hr.mono (by decide)) (pa_cons (pv 0) (pa_cons (pv 2) pa_nil))) (pa_cons (pe_cal C__law_draw (hr.mono (by decide)) (pa_cons (pv 0) (pa_cons (pv 1) pa_nil))) pa_nil)))))
        (pss_one (zs (i := 4) sc__law_arrows.nd (pe_op op_cat (pv 4) (pe_ifExp (pt_cmpR (op_niDD K hu65) (pv 6) (pv 4) rfl) (pe_lst (pa_cons (pv 6) pa_nil)) (pe_lst pa_nil)))))))
      (pss_one (ps_ret (pv 4))))), ?_⟩
    obtain ⟨op, hpo⟩ := hp.at
    refine ⟨Nat.zero_le _, fun L0 hL0 => ?_⟩
    have g0 := (Gr.refl (B := [p]) fs).new (o := .lst []) hL0
    have hp0 : PenAt K (upd F0 L0 (.lst [])) (upd H L0 (.lst [])) p t := hp.gr ((Gr.refl (B := []) fs).new hL0) (by simp)
    have hL1 : upd F0 L0 (.lst []) L0 = some (.lst []) := upd_same
    generalize upd H L0 (.lst []) = H1 at g0 hp0 ⊢
    generalize upd F0 L0 (.lst []) = F1 at g0 hp0 hL1
    refine ⟨_, rfl, number, rfl, by omega, by omega, ?_⟩
    rw [Int.toNat_natCast]
    refine for_it walk_range (fun i σ' H' => ∃ (o5 o6 : Option V) (F' : Hp) (L : Addr) (xs : List V) (A : List Arr) (t' : Int), σ' = [some (.ref p), some (.int many), some v, some (.int number), some (.ref L), o5, o6] ∧ Gr [p] F0 H F' H' ∧ F' L = some (.lst xs) ∧ DpAll K F' xs (A.map encA) ∧ A.Nodup ∧ A.length ≤ i ∧
        (∀ a ∈ A, 0 ≤ a.1 ∧ a.1 < many ∧ a.2.1 ∈ sounds ∧ 0 ≤ a.2.2 ∧ a.2.2 < many) ∧ PenAt K F' H' p t' ∧ t ≤ t' ∧ t' ≤ t + 3 * i)
      ⟨none, none, F1, L0, [], [], t, rfl, g0, hL1, .nil, List.nodup_nil, Nat.zero_le _, by simp, hp0, Int.le_refl _, by omega⟩ (fun _ _ _ _ _ => True.intro) ?_ ?_
    · rintro i y σ' H' H'' hi ⟨o5, o6, F', L, xs, A, t', rfl, g, hL, hxs, nd, lA, okA, hp', u1, u2⟩ ⟨rfl, rfl⟩
      -- the arrow
      refine ⟨_, rfl, _, rfl, F', p, many, t', rfl, g.fh, hp', by omega, m0, by omega, fun d1 t1 F2 H2 a1 a2 v1 v2 g2 hp2 => ?_⟩
      refine ⟨_, rfl, _, rfl, F2, p, v, _, _, t1, rfl, g2.fh, hp2, by omega, (hv.ex g.ff).ex g2.ff, .inl rfl, by rw [List.length_map]; exact s0, by rw [List.length_map]; omega, fun rz ez t2 F3 H3 em hz v3 v4 g3 hp3 => ?_⟩
      obtain ⟨z, zm, rfl⟩ := List.mem_map.mp em
      rw [dp_str] at hz
      subst hz
      refine ⟨_, rfl, _, rfl, F3, p, many, t2, rfl, g3.fh, hp3, by omega, m0, by omega, fun d2 t3 F4 H4 b1 b2 v5 v6 g4 hp4 => ?_⟩
      refine ⟨by show 3 ≤ sizeLine; omega, fun Ta hTa => ?_⟩
      have g14 := ((g.trans g2 (fun b hb => .inl hb)).trans g3 (fun b hb => .inl hb)).trans g4 (fun b hb => .inl hb)
      have e4 : Ex F' F4 := (g2.ff.trans g3.ff).trans g4.ff
      have hp5 : PenAt K (upd F4 Ta (.tup [.int d1, .str z, .int d2])) (upd H4 Ta (.tup [.int d1, .str z, .int d2])) p t3 := hp4.gr ((Gr.refl (B := []) g4.fh).new hTa) (by simp)
      have g5 := g14.new (o := .tup [.int d1, .str z, .int d2]) hTa
      have e5 := e4.trans (Ex.new (o := HO.tup [.int d1, .str z, .int d2]) (g4.fh.dm hTa))
      have hT5 : Dp K (upd F4 Ta (.tup [.int d1, .str z, .int d2])) (.ref Ta) (encA (d1, z, d2)) := .tup (.inl (.inl upd_same)) (.cons (.int _) (.cons (.str _) (.cons (.int _) .nil)))
      generalize upd H4 Ta (.tup [.int d1, .str z, .int d2]) = H5 at g5 hp5 ⊢
      generalize upd F4 Ta (.tup [.int d1, .str z, .int d2]) = F5 at g5 hp5 e5 hT5
      have hL5 := e5 _ _ hL
      have hx5 := hxs.ex e5
      have sOkA : ∀ a ∈ A, PyData.strOk a.2.1 = true := fun a ha => sOk _ (okA a ha).2.2.1
      -- found + ..
      refine ⟨_, rfl, _, rfl, _, rfl, .mk ⟨encA (d1, z, d2), A.map encA, Dp.sees g5.fh hT5, Dp.sees g5.fh (.lst (.inl (.inl hL5)) hx5), encA_shaped _ (sOk z zm), encAs_shaped sOkA, _, rfl, ?_⟩⟩
      rw [encA_any]
      have lx := hx5.length
      rw [List.length_map] at lx
      by_cases hin : (d1, z, d2) ∈ A
      · refine iteNo (by rw [decide_eq_true hin]; decide) ⟨Nat.zero_le _, fun M hM => ?_⟩
        have g6 := g5.newM (o := .lst []) hM
        have hp6 := hp5.upd' (o := .lst []) (ne_of_none hp5.at.choose_spec hM)
        refine ⟨L, M, xs, [], rfl, rfl, sees_lst g6.fh hL5, upd_same, by simp; omega, fun N hN => ?_⟩
        have hp7 := hp6.gr ((Gr.refl (B := []) g6.fh).new (o := .lst (xs ++ [])) hN) (by simp)
        refine ⟨_, _, _, N, xs ++ [], A, t3, rfl, g6.new hN, upd_same, by rw [List.append_nil]; exact hx5.ex (Ex.new (g6.fh.dm hN)), nd, by omega, okA, hp7, by omega, by omega⟩
      · refine iteYes (by rw [decide_eq_false hin]; rfl) ⟨_, rfl, by show 1 ≤ sizeLine; omega, fun M hM => ?_⟩
        have g6 := g5.newM (o := .lst [.ref Ta]) hM
        have hp6 := hp5.upd' (o := .lst [.ref Ta]) (ne_of_none hp5.at.choose_spec hM)
        refine ⟨L, M, xs, [.ref Ta], rfl, rfl, sees_lst g6.fh hL5, upd_same, by simp; omega, fun N hN => ?_⟩
        have hp7 := hp6.gr ((Gr.refl (B := []) g6.fh).new (o := .lst (xs ++ [.ref Ta])) hN) (by simp)
        have e7 := Ex.new (o := HO.lst (xs ++ [.ref Ta])) (g6.fh.dm hN)
        refine ⟨_, _, _, N, xs ++ [.ref Ta], A ++ [(d1, z, d2)], t3, rfl, g6.new hN, upd_same, by rw [List.map_append]; exact (hx5.ex e7).append (.cons (hT5.ex e7) .nil), List.nodup_append.mpr ⟨nd, by simp, fun a ha b hb e => hin (by rw [← List.mem_singleton.mp hb, ← e]; exact ha)⟩, by simp; omega, fun a ha => ?_, hp7, by omega, by omega⟩
        rw [List.mem_append, List.mem_singleton] at ha
        rcases ha with ha | rfl
        · exact okA a ha
        · exact ⟨a1, a2, zm, b1, b2⟩
    · rintro σ' H' ⟨o5, o6, F', L, xs, A, t', rfl, g, hL, hxs, nd, lA, okA, hp', u1, u2⟩
      exact ⟨_, rfl, q (.ref L) A t' F' H' nd lA okA (.lst (.inl (.inl hL)) hxs) u1 u2 g hp'⟩
end
end TW
set_option Elab.async false
set_option linter.all false
set_option maxRecDepth 100000
set_option maxHeartbeats 8000000
/-! the law's own steps -/
namespace TW
open PySem PySem.Spec PyProof.Rows L2 RZ StX
open Evl (Ex)
def spPlaces (K : PySem.W.Frag) : Sp := fun vs H Q _ => ∃ (F : Hp) (va vb : V) (A : List Arr) (S : List Int), vs = [va, vb] ∧ Sees F H ∧ Dp K F va (.list (A.map encA)) ∧ Dp K F vb (.list (S.map .int)) ∧ A.length ≤ 1000 ∧ S.length ≤ 1000 ∧
  ∀ (r : V) (ns : List Int) F' H', ns.Pairwise (· < ·) → (∀ k, k ∈ ns ↔ k ∈ S ∨ (∃ a ∈ A, a.1 = k) ∨ ∃ a ∈ A, a.2.2 = k) → Dp K F' r (.list (ns.map .int)) → Gr [] F H F' H' → Q r H'
theorem inV_strs (k : Str) (l : List Str) : inV (.str k) (l.map V.str) = decide (k ∈ l) := by
  unfold inV
  rw [List.any_map]
  induction l with
  | nil => rfl
  | cons b r ih =>
    rw [List.any_cons, ih]
    show ((b == k) || _) = _
    by_cases h : b = k
    · simp [h]
    · have h' : ¬ k = b := fun e => h e.symm
      rw [show (b == k) = false from beq_eq_false_iff_ne.mpr h]
      simp [h']
theorem filter_le' {α : Type} {p q : α → Bool} : ∀ {A : List α}, (∀ a ∈ A, p a = true → q a = true) → (A.filter p).length ≤ (A.filter q).length
  | [], _ => Nat.le_refl _
  | b :: r, h => by
    have ih := filter_le' (A := r) fun a ha => h a (List.mem_cons_of_mem _ ha)
    have hb := h b List.mem_cons_self
    rw [List.filter_cons, List.filter_cons]
    cases hp : p b <;> cases hq : q b <;> simp_all <;> omega
theorem filter_lt' {α : Type} {p q : α → Bool} : ∀ {A : List α}, (∀ a ∈ A, p a = true → q a = true) → (∃ a ∈ A, q a = true ∧ p a = false) → (A.filter p).length < (A.filter q).length
  | [], _, ⟨_, h, _⟩ => absurd h (by simp)
  | b :: r, h, ⟨a, ha, qa, pa⟩ => by
    have hr := fun a ha => h a (List.mem_cons_of_mem b ha)
    have hb := h b List.mem_cons_self
    have le := filter_le' hr
    rcases List.mem_cons.mp ha with rfl | ha
    · rw [List.filter_cons, List.filter_cons, qa, pa]
      simp
      omega
    · have ih := filter_lt' hr ⟨a, ha, qa, pa⟩
      rw [List.filter_cons, List.filter_cons]
      cases hp : p b <;> cases hq : q b <;> simp_all <;> omega
/-- one round of the law's closing -/
def rnd (A : List Arr) (m : Str → List Str) (ns : List Int) : List Int := (A.filter fun a => decide (a.1 ∈ ns) && decide (("" : Str) ∈ m a.2.1)).map fun a => a.2.2
def spLClosed (K : PySem.W.Frag) : Sp := fun vs H Q _ => ∃ (F : Hp) (va vc : V) (a : Addr) (dS : PyData) (kvs : List (Key × V)) (ks : List Str) (m : Str → List Str) (A : List Arr) (S : List Int), vs = [va, .ref a, vc] ∧ Sees F H ∧ Dp K F va (.list (A.map encA)) ∧ F a = some (.dK kvs) ∧ Tells K F kvs ks m .list ∧ (∀ b ∈ A, b.2.1 ∈ ks) ∧
  Dp K F vc dS ∧ isSeq dS (S.map .int) ∧ A.length ≤ 500 ∧ S.length ≤ 1000 ∧
  ∀ (r : V) (ns : List Int) F' H', ns.Pairwise (· < ·) → (∀ k, k ∈ ns ↔ ReachP (trip m A) (· ∈ S) k) → Dp K F' r (.tuple (ns.map .int)) → Gr [] F H F' H' → Q r H'
def spLBehind (K : PySem.W.Frag) : Sp := fun vs H Q _ => ∃ (F : Hp) (va vc : V) (k : Str) (a : Addr) (dS : PyData) (kvs : List (Key × V)) (ks : List Str) (m : Str → List Str) (A : List Arr) (S : List Int), vs = [va, .ref a, vc, .str k] ∧ Sees F H ∧ Dp K F va (.list (A.map encA)) ∧ F a = some (.dK kvs) ∧ Tells K F kvs ks m .list ∧ (∀ b ∈ A, b.2.1 ∈ ks) ∧
  Dp K F vc dS ∧ isSeq dS (S.map .int) ∧ A.length ≤ 500 ∧ S.length ≤ 1000 ∧
  ∀ (r : V) (ns : List Int) F' H', ns.Pairwise (· < ·) → (∀ q, q ∈ ns ↔ Beh (trip m A) k (· ∈ S) q) → Dp K F' r (.tuple (ns.map .int)) → Gr [] F H F' H' → Q r H'
section
variable {P : Program} {w : World} {K : PySem.W.Frag} {mg : Str → Option Value} {base : Heap}
theorem ok_places {f : Addr} {fd : FuncData} (F : Fun K "_law_places" "_law_places" s__law_places f fd) (T : Txt mg) : FnOk P w K mg base CX0 1 f fd ["arrows", "starts"] (spPlaces K) := by
  refine F.ok sc__law_places (fun vs H Q E h => ?_) (fun cdv A outer s H vs Q E hr h => ?_)
  · obtain ⟨F0, va, vb, A, S, rfl, _⟩ := h
    rfl
  · obtain ⟨F0, va, vb, A, S, rfl, fs, hA, hS, lA, lS, q⟩ := h
    have hu8 := hu8_of hr
    have lz : 100000 < sizeLine := by rw [sizeLine_eq]; decide
    refine ⟨_, (pss_one (ps_ret (pe_callB (cr_sortedKI w hu8) (by rfl) T.sorted bt_sorted (pa_cons (pe_callTy (cr_setK K w) (by rfl) T.set bt_set (pa_cons (pe_op op_cat (pe_op op_cat (pe_callTy (cr_list K) (by rfl) T.list bt_list (pa_cons (pv 1) pa_nil)) (pe_lc (own := [("arrow", 2)]) rfl sc__law_places.nd (zseq K (pv 0)) (blkOk_by (N := sc__law_placesN) (sc := defScope s__law_places) (by decide +kernel)) (fun _ _ _ _ _ => (zg (i := 2) sc__law_places.nd)) (fun _ _ _ _ _ => pts_nil) (fun _ _ _ _ _ => (pe_ix (ix_LT K) (pv 2) pe_int (fun _ _ => rfl))))) (pe_lc (own := [("arrow", 2)]) rfl sc__law_places.nd (zseq K (pv 0)) (blkOk_by (N := sc__law_placesN) (sc := defScope s__law_places) (by decide +kernel)) (fun _ _ _ _ _ => (zg (i := 2) sc__law_places.nd)) (fun _ _ _ _ _ => pts_nil) (fun _ _ _ _ _ => (pe_ix (ix_LT K) (pv 2) pe_int (fun _ _ => rfl))))) pa_nil)) pa_nil)))), ?_⟩
    refine ⟨_, rfl, list_dp hS (.inl rfl) fs fun p1 y1 F1 H1 g1 n1 f1 h1 hy1 => ?_⟩
    rw [dps_int] at hy1
    subst hy1
    -- arrow[0]
    refine ⟨_, rfl, seq_walk (hA.ex g1.ff) (.inl rfl) g1.fh fun J xs G w1 hG hxs hlen D hD => ?_⟩
    refine lc_seqM (bs := A) (enc := encA) (f := fun a => .int a.1) w1 hxs g1.fh hG (by omega) (fun b y F' H' hb g2 hy => turn1 rfl fun Yes h => ⟨_, rfl, ix_dp hy (.inr rfl) g2.fh (e := .int b.1) rfl fun r hr => h _ _ _ (Gr.refl g2.fh) hr⟩) hD fun acc F2 H2 g2 fD hDc hacc => ?_
    have e1 : (A.map fun a => PyData.int a.1) = (A.map fun a => a.1).map PyData.int := by rw [List.map_map]; rfl
    rw [e1, dps_int] at hacc
    subst hacc
    have h12 := g2.at h1
    refine ⟨p1, D, _, _, rfl, rfl, h12, hDc, by simp; omega, fun p2 hp2 => ?_⟩
    have g3 := (g1.trans g2).newM (o := .lst (S.map V.int ++ (A.map fun a => a.1).map V.int)) hp2
    have h3 : upd H2 p2 (.lst (S.map V.int ++ (A.map fun a => a.1).map V.int)) p2 = some _ := upd_same
    generalize upd H2 p2 (.lst (S.map V.int ++ (A.map fun a => a.1).map V.int)) = H3 at g3 h3 ⊢
    -- arrow[2]
    refine ⟨_, rfl, seq_walk (hA.ex g3.ff) (.inl rfl) g3.fh fun J2 xs2 G2 w2 hG2 hxs2 hlen2 D2 hD2 => ?_⟩
    refine lc_seqM (bs := A) (enc := encA) (f := fun a => .int a.2.2) w2 hxs2 g3.fh hG2 (by omega) (fun b y F' H' hb g4 hy => turn1 rfl fun Yes h => ⟨_, rfl, ix_dp hy (.inr rfl) g4.fh (e := .int b.2.2) rfl fun r hr => h _ _ _ (Gr.refl g4.fh) hr⟩) hD2 fun acc2 F4 H4 g4 fD2 hDc2 hacc2 => ?_
    have e2 : (A.map fun a => PyData.int a.2.2) = (A.map fun a => a.2.2).map PyData.int := by rw [List.map_map]; rfl
    rw [e2, dps_int] at hacc2
    subst hacc2
    have h34 := g4.at h3
    refine ⟨p2, D2, _, _, rfl, rfl, h34, hDc2, by simp; omega, fun p3 hp3 => ?_⟩
    rw [← List.map_append, ← List.map_append]
    generalize el : S ++ (A.map fun a => a.1) ++ (A.map fun a => a.2.2) = l
    have ll : l.length ≤ 3000 := by rw [← el]; simp; omega
    have g5 := (g3.trans g4).newM (o := .lst (l.map V.int)) hp3
    refine ⟨p3, l.map Sum.inl, rfl, .inl (by rw [keys_int]; exact .inl (.inl upd_same)), by rw [List.length_map]; omega, fun q1 n hq1 hn hex => ?_⟩
    have g6 := g5.newM (o := SKO w q1 (l.map Sum.inl) n) hq1
    refine ⟨q1, l, n, rfl, upd_same, fun ns p4 srt mem len hp4 => ?_⟩
    refine q (.ref p4) ns _ _ srt (fun k => ?_) (.lst (.inl (.inl upd_same)) (dps_int.mpr rfl)) (g6.new hp4)
    rw [mem k, ← el]
    simp [or_assoc]
theorem ok_lclosed {f : Addr} {fd : FuncData} (F : Fun K "_law_closed" "_law_closed" s__law_closed f fd) (T : Txt mg) : FnOk P w K mg base CX0 1 f fd ["arrows", "marks", "places"] (spLClosed K) := by
  refine F.ok sc__law_closed (fun vs H Q E h => ?_) (fun cdv A outer s H vs Q E hr h => ?_)
  · obtain ⟨F0, va, vc, a, dS, kvs, ks, m, A, S, rfl, _⟩ := h
    rfl
  · obtain ⟨F0, va, vc, a, dS, kvs, ks, m, A, S, rfl, fs, hA, ha, tl, sub, hS, hq, lA, lS, q⟩ := h
    have hu := hu_of hr
    have hu8 := hu8_of hr
    have lz : 100000 < sizeLine := by rw [sizeLine_eq]; decide
    refine ⟨_, (pss_cons (zs (i := 3) sc__law_closed.nd (pe_callB (cr_sortedKI w hu8) (by rfl) T.sorted bt_sorted (pa_cons (pe_callTy (cr_setK K w) (by rfl) T.set bt_set (pa_cons (pv 2) pa_nil)) pa_nil)))
      (pss_cons (ps_for PassesOwn.never rfl (pi_range1 rfl T.range (pa_cons (pe_callB (cr_len K) (by rfl) T.len bt_len (pa_cons (pv 0) pa_nil)) pa_nil)) (zg (i := 4) sc__law_closed.nd)
        (pss_one (zs (i := 3) sc__law_closed.nd (pe_callB (cr_sortedKI w hu8) (by rfl) T.sorted bt_sorted (pa_cons (pe_callTy (cr_setK K w) (by rfl) T.set bt_set (pa_cons (pe_op op_cat (pv 3) (pe_lc (own := [("place", 5), ("sound", 6), ("later", 7)]) rfl sc__law_closed.nd (zseq K (pv 0)) (blkOk_by (N := sc__law_closedN) (sc := defScope s__law_closed) (by decide +kernel)) (fun _ _ _ _ _ => (zpg (n := 3) K (pgs_cons (zg (i := 5) sc__law_closed.nd) (pgs_cons (zg (i := 6) sc__law_closed.nd) (pgs_cons (zg (i := 7) sc__law_closed.nd) pgs_nil))))) (fun _ _ _ _ _ => (pts_one (PW.pt (pw_and (pt_cmpR (op_inK K) (pv 5) (pv 3) rfl) (pw_and1 (pt_cmpR (op_inK K) pe_str (pe_dget hu (pv 1) (pv 6) (fun _ _ => rfl)) rfl)))))) (fun _ _ _ _ _ => (pv 7)))) pa_nil)) pa_nil)))))
      (pss_one (ps_ret (pe_callTy (cr_tuple K) (by rfl) T.tuple bt_tuple (pa_cons (pv 3) pa_nil)))))), ?_⟩
    obtain ⟨p0, y0, rfl, h0, hy0⟩ := dp_seq hS hq
    rw [dps_int] at hy0
    subst hy0
    refine ⟨_, rfl, p0, S.map Sum.inl, rfl, by rw [keys_int]; exact h0.imp (sees_l fs) (sees_t fs), by rw [List.length_map]; omega, fun q1 n hq1 hn hex => ?_⟩
    have g1 := (Gr.refl (B := []) fs).newM (o := SKO w q1 (S.map Sum.inl) n) hq1
    refine ⟨q1, S, n, rfl, upd_same, fun ns0 p1 srt0 mem0 len0 hp1 => ?_⟩
    have g2 := g1.new (o := .lst (ns0.map V.int)) hp1
    have f2 : upd F0 p1 (.lst (ns0.map V.int)) p1 = some (.lst (ns0.map V.int)) := upd_same
    generalize upd (upd H q1 (SKO w q1 (S.map Sum.inl) n)) p1 (.lst (ns0.map V.int)) = H2 at g2 ⊢
    generalize upd F0 p1 (.lst (ns0.map V.int)) = F2 at g2 f2
    refine ⟨_, rfl, len_dp (hA.ex g2.ff) (.inl rfl) g2.fh ⟨_, rfl, by omega, by rw [List.length_map]; omega, ?_⟩⟩
    rw [Int.toNat_natCast, List.length_map]
    refine for_it walk_range (fun i σ' H' => ∃ (o4 o5 o6 o7 : Option V) (F' : Hp) (L : Addr) (ns : List Int), σ' = [some va, some (.ref a), some (.ref p0), some (.ref L), o4, o5, o6, o7] ∧ Gr [] F0 H F' H' ∧ F' L = some (.lst (ns.map V.int)) ∧ ns.Pairwise (· < ·) ∧ (∀ z ∈ S, z ∈ ns) ∧ (∀ z ∈ ns, ReachP (trip m A) (· ∈ S) z) ∧
        ((∀ z ∈ rnd A m ns, z ∈ ns) ∨ i ≤ (A.filter fun b => decide (b.2.2 ∈ ns)).length))
      ⟨none, none, none, none, F2, p1, ns0, rfl, g2, f2, srt0, fun z hz => (mem0 z).mpr hz, fun z hz => .base ((mem0 z).mp hz), .inr (Nat.zero_le _)⟩ (fun _ _ _ _ _ => True.intro) ?_ ?_
    · rintro i y σ' H' H'' hi ⟨o4, o5, o6, o7, F', L, ns, rfl, g, hL, srt, hS', hR, cl⟩ ⟨rfl, rfl⟩
      refine ⟨_, rfl, _, rfl, seq_walk (hA.ex g.ff) (.inl rfl) g.fh fun J xs G w1 hG hxs hlen D hD => ?_⟩
      refine lc_seqP (bs := A) (enc := encA) (p := fun b => decide (b.1 ∈ ns) && decide (("" : Str) ∈ m b.2.1)) (f := fun b => .int b.2.2) w1 hxs g.fh hG (by omega) (fun b y F1 H1 hb g1 hy => ?_) hD fun acc F2' H2' g2' fD hDc hacc => ?_
      · obtain ⟨T1, xs1, rfl, hT, hx1⟩ := dp_tup (show Dp K F1 y (.tuple [.int b.1, .str b.2.1, .int b.2.2]) from hy)
        obtain rfl := dps3 hx1
        intro Yes No h0 h1
        refine ⟨T1, _, rfl, sees_t g1.fh hT, rfl, _, _, rfl, _, _, rfl, _, _, rfl, rfl, rfl, ?_⟩
        have hLf := g1.ff _ _ hL
        refine ⟨_, rfl, _, rfl, .mk ⟨L, _, rfl, .inl (.inl (.inl (sees_lst g1.fh hLf))), rfl, flat_ints ns, _, rfl, ?_⟩⟩
        rw [inV_ints]
        by_cases c1 : b.1 ∈ ns
        · refine iteYes (decide_eq_true c1) ?_
          obtain ⟨v', v1, v2⟩ := tl.va b.2.1 (sub b hb)
          have eF : Ex F0 F1 := g.ff.trans g1.ff
          obtain ⟨la, ls, rfl, hls, hlx⟩ := dp_list (v2.ex eF)
          rw [dps_str] at hlx
          subst hlx
          refine ⟨_, rfl, _, rfl, a, .ref la, rfl, .inl ⟨kvs, Sum.inr b.2.1, sees_d g1.fh (eF _ _ ha), rfl, v1.symm⟩, .mk ⟨la, _, rfl, .inl (sees_l g1.fh hls), rfl, flat_strs _, _, rfl, ?_⟩⟩
          rw [inV_strs]
          by_cases c2 : ("" : Str) ∈ m b.2.1
          · exact iteYes (decide_eq_true c2) ⟨_, rfl, h1 (by simp [c1, c2]) _ _ _ (Gr.refl g1.fh) (.int _)⟩
          · exact iteNo (by simp [c2]) (h0 (by simp [c2]) _ _ (Gr.refl g1.fh) True.intro)
        · exact iteNo (by simp [c1]) (h0 (by simp [c1]) _ _ (Gr.refl g1.fh) True.intro)
      · have e1 : (A.filter fun b => decide (b.1 ∈ ns) && decide (("" : Str) ∈ m b.2.1)).map (fun b => PyData.int b.2.2) = (rnd A m ns).map PyData.int := by unfold rnd; rw [List.map_map]; rfl
        rw [e1, dps_int] at hacc
        subst hacc
        have gg := g.trans g2'
        have lr : (rnd A m ns).length ≤ A.length := by unfold rnd; rw [List.length_map]; exact List.length_filter_le _ _
        have ln : ns.length ≤ S.length + A.length := by
          have z := nodup_le (l := ns) (m := S ++ A.map fun b => b.2.2) (srt.imp fun h e => Int.ne_of_lt h e) fun z hz => by
            cases hR z hz with
            | base h => simp [h]
            | step _ e =>
              obtain ⟨y, y1, _⟩ := mem_trip.mp e
              exact List.mem_append_right _ (List.mem_map.mpr ⟨_, y1, rfl⟩)
          simpa using z
        refine ⟨L, D, _, _, rfl, rfl, sees_lst g2'.fh (g2'.ff _ _ hL), hDc, by simp; omega, fun N hN => ?_⟩
        have g3 := gg.newM (o := .lst (ns.map V.int ++ (rnd A m ns).map V.int)) hN
        refine ⟨N, (ns ++ rnd A m ns).map Sum.inl, rfl, .inl (by rw [keys_int, List.map_append]; exact .inl (.inl upd_same)), by simp; omega, fun q2 n2 hq2 hn2 hex2 => ?_⟩
        have g4 := g3.newM (o := SKO w q2 ((ns ++ rnd A m ns).map Sum.inl) n2) hq2
        refine ⟨q2, ns ++ rnd A m ns, n2, rfl, upd_same, fun ns2 p4 srt2 mem2 len2 hp4 => ?_⟩
        refine ⟨_, _, _, _, _, p4, ns2, rfl, g4.new hp4, upd_same, srt2, fun z hz => (mem2 z).mpr (by simp [hS' z hz]), fun z hz => ?_, ?_⟩
        · rw [mem2 z, List.mem_append] at hz
          rcases hz with hz | hz
          · exact hR z hz
          · obtain ⟨b, hb, rfl⟩ := List.mem_map.mp hz
            obtain ⟨b1, b2⟩ := List.mem_filter.mp hb
            rw [Bool.and_eq_true, decide_eq_true_eq, decide_eq_true_eq] at b2
            exact .step (hR _ b2.1) (mem_trip.mpr ⟨_, b1, b2.2⟩)
        · by_cases hc : ∀ z ∈ rnd A m ns, z ∈ ns
          · refine .inl fun z hz => ?_
            have hm : ∀ y, y ∈ ns2 ↔ y ∈ ns := fun y => by
              rw [mem2 y, List.mem_append]
              exact ⟨fun h => h.elim id (hc y), .inl⟩
            obtain ⟨b, hb, rfl⟩ := List.mem_map.mp hz
            obtain ⟨b1, b2⟩ := List.mem_filter.mp hb
            rw [Bool.and_eq_true, decide_eq_true_eq, decide_eq_true_eq, hm] at b2
            exact (hm _).mpr (hc _ (List.mem_map.mpr ⟨b, List.mem_filter.mpr ⟨b1, by simp [b2.1, b2.2]⟩, rfl⟩))
          · refine .inr ?_
            have cl' := cl.resolve_left hc
            obtain ⟨z, hz⟩ := Classical.not_forall.mp hc
            obtain ⟨hz1, hz2⟩ := Classical.not_imp.mp hz
            obtain ⟨b, hb, rfl⟩ := List.mem_map.mp hz1
            have z2 : b.2.2 ∈ ns2 := (mem2 _).mpr (List.mem_append_right _ hz1)
            have lt := filter_lt' (p := fun b : Arr => decide (b.2.2 ∈ ns)) (q := fun b : Arr => decide (b.2.2 ∈ ns2)) (A := A) (fun a _ h => decide_eq_true ((mem2 _).mpr (List.mem_append_left _ (of_decide_eq_true h)))) ⟨b, (List.mem_filter.mp hb).1, decide_eq_true z2, decide_eq_false hz2⟩
            omega
    · rintro σ' H' ⟨o4, o5, o6, o7, F', L, ns, rfl, g, hL, srt, hS', hR, cl⟩
      have hc : ∀ z ∈ rnd A m ns, z ∈ ns := cl.elim id fun h z hz => by
        have hall : A.filter (fun b => decide (b.2.2 ∈ ns)) = A := List.filter_sublist.eq_of_length_le h
        obtain ⟨b, hb, rfl⟩ := List.mem_map.mp hz
        have hb' := (List.mem_filter.mp hb).1
        rw [← hall] at hb'
        exact of_decide_eq_true (List.mem_filter.mp hb').2
      refine ⟨_, rfl, tuple_dp (.lst (.inl (.inl hL)) (dps_int.mpr rfl)) (.inl rfl) g.fh fun r F3 H3 g3 hr => q r ns F3 H3 srt (fun k => ⟨fun h => hR k h, fun h => ?_⟩) hr (g.trans g3)⟩
      induction h with
      | base h => exact hS' _ h
      | step _ e ih =>
        obtain ⟨z, z1, z2⟩ := mem_trip.mp e
        exact hc _ (List.mem_map.mpr ⟨_, List.mem_filter.mpr ⟨z1, by simp [ih, z2]⟩, rfl⟩)
theorem ok_lbehind {f : Addr} {fd : FuncData} (F : Fun K "_law_behind" "_law_behind" s__law_behind f fd) (C__law_closed : Cal P w K mg base "_law_closed" 1 ["arrows", "marks", "places"] [] (spLClosed K)) : FnOk P w K mg base CX0 2 f fd ["arrows", "marks", "places", "mark"] (spLBehind K) := by
  refine F.ok sc__law_behind (fun vs H Q E h => ?_) (fun cdv A outer s H vs Q E hr h => ?_)
  · obtain ⟨F0, va, vc, k, a, dS, kvs, ks, m, A, S, rfl, _⟩ := h
    rfl
  · obtain ⟨F0, va, vc, k, a, dS, kvs, ks, m, A, S, rfl, fs, hA, ha, tl, sub, hS, hq, lA, lS, q⟩ := h
    have hu := hu_of hr
    refine ⟨_, (pss_one (ps_ret (pe_cal C__law_closed (hr.mono (by decide)) (pa_cons (pv 0) (pa_cons (pv 1) (pa_cons (pe_lc (own := [("place", 4), ("sound", 5), ("later", 6)]) rfl sc__law_behind.nd (zseq K (pv 0)) (blkOk_by (N := sc__law_behindN) (sc := defScope s__law_behind) (by decide +kernel)) (fun _ _ _ _ _ => (zpg (n := 3) K (pgs_cons (zg (i := 4) sc__law_behind.nd) (pgs_cons (zg (i := 5) sc__law_behind.nd) (pgs_cons (zg (i := 6) sc__law_behind.nd) pgs_nil))))) (fun _ _ _ _ _ => (pts_one (PW.pt (pw_and (pt_cmpR (op_inK K) (pv 4) (pv 2) rfl) (pw_and1 (pt_cmpR (op_inK K) (pv 3) (pe_dget hu (pv 1) (pv 5) (fun _ _ => rfl)) rfl)))))) (fun _ _ _ _ _ => (pv 6))) pa_nil)))))), ?_⟩
    obtain ⟨p0, y0, rfl, h0, hy0⟩ := dp_seq hS hq
    rw [dps_int] at hy0
    subst hy0
    refine ⟨_, rfl, _, rfl, _, rfl, seq_walk hA (.inl rfl) fs fun J xs G w1 hG hxs hlen D hD => ?_⟩
    refine lc_seqP (bs := A) (enc := encA) (p := fun b => decide (b.1 ∈ S) && decide (k ∈ m b.2.1)) (f := fun b => .int b.2.2) w1 hxs fs hG (by omega) (fun b y F1 H1 hb g1 hy => ?_) hD fun acc F2 H2 g2 fD hDc hacc => ?_
    · obtain ⟨T1, xs1, rfl, hT, hx1⟩ := dp_tup (show Dp K F1 y (.tuple [.int b.1, .str b.2.1, .int b.2.2]) from hy)
      obtain rfl := dps3 hx1
      intro Yes No n0 n1
      refine ⟨T1, _, rfl, sees_t g1.fh hT, rfl, _, _, rfl, _, _, rfl, _, _, rfl, rfl, rfl, ?_⟩
      refine ⟨_, rfl, _, rfl, .mk ⟨p0, _, rfl, h0.imp (fun z => sees_l g1.fh (Evl.ex_l g1.ff z)) (fun z => sees_t g1.fh (Evl.ex_t g1.ff z)), rfl, flat_ints S, _, rfl, ?_⟩⟩
      rw [inV_ints]
      by_cases c1 : b.1 ∈ S
      · refine iteYes (decide_eq_true c1) ?_
        obtain ⟨v', v1, v2⟩ := tl.va b.2.1 (sub b hb)
        obtain ⟨la, ls, rfl, hls, hlx⟩ := dp_list (v2.ex g1.ff)
        rw [dps_str] at hlx
        subst hlx
        refine ⟨_, rfl, _, rfl, _, rfl, a, .ref la, rfl, .inl ⟨kvs, Sum.inr b.2.1, sees_d g1.fh (g1.ff _ _ ha), rfl, v1.symm⟩, .mk ⟨la, _, rfl, .inl (sees_l g1.fh hls), rfl, flat_strs _, _, rfl, ?_⟩⟩
        rw [inV_strs]
        by_cases c2 : k ∈ m b.2.1
        · exact iteYes (decide_eq_true c2) ⟨_, rfl, n1 (by simp [c1, c2]) _ _ _ (Gr.refl g1.fh) (.int _)⟩
        · exact iteNo (by simp [c2]) (n0 (by simp [c2]) _ _ (Gr.refl g1.fh) True.intro)
      · exact iteNo (by simp [c1]) (n0 (by simp [c1]) _ _ (Gr.refl g1.fh) True.intro)
    · have e1 : (A.filter fun b => decide (b.1 ∈ S) && decide (k ∈ m b.2.1)).map (fun b => PyData.int b.2.2) = ((A.filter fun b => decide (b.1 ∈ S) && decide (k ∈ m b.2.1)).map fun b => b.2.2).map PyData.int := by rw [List.map_map]; rfl
      rw [e1] at hacc
      have lr : ((A.filter fun b => decide (b.1 ∈ S) && decide (k ∈ m b.2.1)).map fun b => b.2.2).length ≤ A.length := by rw [List.length_map]; exact List.length_filter_le _ _
      have gd := g2.done hD fD hDc
      have ed := gd.ff
      refine ⟨_, va, .ref D, a, .list _, kvs, ks, m, A, _, rfl, gd.fh, hA.ex ed, ed _ _ ha, tl.ex ed, sub, .lst (.inl (.inl upd_same)) (hacc.ex (Ex.new fD)), .inl rfl, lA, by omega, fun r ns F3 H3 srt mem hr g3 => q r ns F3 H3 srt (fun z => ?_) hr (gd.trans g3)⟩
      rw [mem z]
      refine ReachP.congr (fun y => ?_) z
      rw [List.mem_map]
      constructor
      · rintro ⟨b, hb, rfl⟩
        obtain ⟨b1, b2⟩ := List.mem_filter.mp hb
        rw [Bool.and_eq_true, decide_eq_true_eq, decide_eq_true_eq] at b2
        exact ⟨b.1, b2.1, mem_trip.mpr ⟨_, b1, b2.2⟩⟩
      · rintro ⟨p, hp, e⟩
        obtain ⟨u, u1, u2⟩ := mem_trip.mp e
        exact ⟨(p, u, y), List.mem_filter.mpr ⟨u1, by simp [hp, u2]⟩, rfl⟩
end
end TW
set_option Elab.async false
set_option linter.all false
set_option maxRecDepth 100000
set_option maxHeartbeats 8000000
/-! the law's own steps, second part -/
namespace TW
open PySem PySem.Spec PyProof.Rows L2 RZ StX
open Evl (Ex)
def spAllMarks (K : PySem.W.Frag) : Sp := fun vs H Q _ => ∃ (F : Hp) (va : V) (a : Addr) (kvs : List (Key × V)) (ks : List Str) (m : Str → List Str), vs = [va, .ref a] ∧ Sees F H ∧ F a = some (.dK kvs) ∧ H a = some (.dK kvs) ∧ Tells K F kvs ks m .list ∧ ks.length ≤ 100 ∧ (∀ k ∈ ks, (m k).length ≤ 6 ∧ (m k).Nodup) ∧
  ∀ (r : V) (ms : List Str) F' H', ms.Nodup → (∀ z, z ∈ ms ↔ z ≠ "" ∧ ∃ k ∈ ks, z ∈ m k) → Dp K F' r (.list (ms.map .str)) → Gr [] F H F' H' → Q r H'
section
variable {P : Program} {w : World} {K : PySem.W.Frag} {mg : Str → Option Value} {base : Heap}
theorem ok_all_marks {f : Addr} {fd : FuncData} (F : Fun K "_law_all_marks" "_law_all_marks" s__law_all_marks f fd) (T : Txt mg) : FnOk P w K mg base CX0 1 f fd ["arrows", "marks"] (spAllMarks K) := by
  refine F.ok sc__law_all_marks (fun vs H Q E h => ?_) (fun cdv A outer s H vs Q E hr h => ?_)
  · obtain ⟨F0, va, a, kvs, ks, m, rfl, _⟩ := h
    rfl
  · obtain ⟨F0, va, a, kvs, ks, m, rfl, fs, fa, ha, tl, zk, okm, q⟩ := h
    have hu := hu_of hr
    have hu16 := hu16_of hr
    have lz : 100000 < sizeLine := by rw [sizeLine_eq]; decide
    refine ⟨_, (pss_cons (zs (i := 2) sc__law_all_marks.nd (pe_lst pa_nil))
      (pss_cons (ps_for PassesOwn.never rfl (zseq K (pe_callB (cr_sortedD K hu16) (by rfl) T.sorted bt_sorted (pa_cons (pe_callTy (call_listD rfl) (by rfl) T.list bt_list (pa_cons (pv 1) pa_nil)) pa_nil))) (zg (i := 3) sc__law_all_marks.nd)
        (pss_one (zs (i := 2) sc__law_all_marks.nd (pe_op op_cat (pv 2) (pe_lc (own := [("mark", 4)]) rfl sc__law_all_marks.nd (zseq K (pe_dget hu (pv 1) (pv 3) (fun _ _ => rfl))) (blkOk_by (N := sc__law_all_marksN) (sc := defScope s__law_all_marks) (by decide +kernel)) (fun _ _ _ _ _ => (zg (i := 4) sc__law_all_marks.nd)) (fun _ _ _ _ _ => (pts_one (PW.pt (pw_and (pt_cmpR op_ne (pv 4) pe_str (nomark _)) (pw_and1 (pt_cmpR (op_niK K) (pv 4) (pv 2) rfl)))))) (fun _ _ _ _ _ => (pv 4)))))))
      (pss_one (ps_ret (pe_callB (cr_sortedD K hu16) (by rfl) T.sorted bt_sorted (pa_cons (pv 2) pa_nil)))))), ?_⟩
    refine ⟨Nat.zero_le _, fun L0 hL0 => ?_⟩
    have g0 := (Gr.refl (B := []) fs).new (o := .lst []) hL0
    have f0 : upd F0 L0 (.lst []) L0 = some (.lst []) := upd_same
    have e0 : Ex F0 (upd F0 L0 (.lst [])) := g0.ff
    generalize upd H L0 (.lst []) = H1 at g0 ⊢
    generalize upd F0 L0 (.lst []) = F1 at g0 f0 e0
    refine ⟨_, rfl, a, kvs, rfl, sees_d g0.fh (e0 _ _ fa), fun p1 hp1 => ?_⟩
    rw [tells_keys tl]
    have g1 := g0.newM (o := .lst (ks.map V.str)) hp1
    refine ⟨Str, eS, ks, p1, ks.map V.str, F1, rfl, g1.fh, .inl (.inl upd_same), dps_str.mpr rfl, alikeS ks, sortableS ks, fun b _ => eS_depth b, fun ys p2 hy hp2 => ?_⟩
    generalize ek : ks.mergeSort (PySem.W.dataLe false eS) = ks2 at hy
    have pk : ks2.Perm ks := ek ▸ List.mergeSort_perm _ _
    have hys := dps_str.mp hy
    subst hys
    have g2 := g1.new (o := .lst (ks2.map V.str)) hp2
    have s2 : upd F1 p2 (.lst (ks2.map V.str)) p2 = some (.lst (ks2.map V.str)) := upd_same
    have e1 := Ex.new (o := HO.lst (ks2.map V.str)) (g1.fh.dm hp2)
    have f2 := e1 _ _ f0
    have e2 := e0.trans e1
    generalize upd (upd H1 p1 (.lst (ks.map V.str))) p2 (.lst (ks2.map V.str)) = H2 at g2 ⊢
    generalize upd F1 p2 (.lst (ks2.map V.str)) = F2 at g2 s2 f2 e2
    refine seq_walk (d := .list (ks2.map .str)) (.lst (.inl (.inl s2)) (dps_str.mpr rfl)) (.inl rfl) g2.fh fun J xs G w1 hG hxs hlen => ?_
    rw [hlen, List.length_map] at w1
    refine for_it w1 (fun i σ' H' => ∃ (o3 o4 : Option V) (F' : Hp) (L : Addr) (l : List Str), σ' = [some va, some (.ref a), some (.ref L), o3, o4] ∧ Gr [] F2 H2 F' H' ∧ F' L = some (.lst (l.map V.str)) ∧ l.Nodup ∧ l.length ≤ 6 * i ∧ ∀ z : Str, z ∈ l ↔ z ≠ "" ∧ ∃ k ∈ ks2.take i, z ∈ m k)
      ⟨none, none, F2, L0, [], rfl, Gr.refl g2.fh, f2, List.nodup_nil, Nat.zero_le _, by simp⟩ (fun i σ' H' _ ⟨_, _, F', _, _, _, g, _⟩ => hG H' (sees_gr g)) ?_ ?_
    · rintro i y σ' H' H'' hi ⟨o3, o4, F', L, l, rfl, g, hL, nd, ll, mem⟩ ⟨rfl, hyi⟩
      obtain ⟨d, k1, k2⟩ := hxs.get hyi
      rw [List.getElem?_map] at k1
      obtain ⟨b, hb, rfl⟩ := Option.map_eq_some_iff.mp k1
      rw [dp_str] at k2
      subst k2
      have bm : b ∈ ks := pk.mem_iff.mp (List.mem_of_getElem? hb)
      obtain ⟨m6, mnd⟩ := okm b bm
      obtain ⟨v', v1, v2⟩ := tl.va b bm
      have eF : Ex F0 F' := e2.trans g.ff
      have i100 : i < 100 := by have := pk.length_eq; omega
      have tk : ks2.take (i + 1) = ks2.take i ++ [b] := by rw [List.take_add_one, hb]; rfl
      refine ⟨_, rfl, _, rfl, _, rfl, a, v', rfl, .inl ⟨kvs, Sum.inr b, sees_d g.fh (eF _ _ fa), rfl, v1.symm⟩, seq_walk (v2.ex eF) (.inl rfl) g.fh fun J2 us G2 w2 hG2 hus hlen2 D hD => ?_⟩
      refine lc_seqP (bs := m b) (enc := .str) (p := fun z => decide (z ≠ "") && !decide (z ∈ l)) (f := .str) w2 hus g.fh hG2 (by omega) (fun z y F1 H1 hz g1 hy => ?_) hD fun acc F3 H3 g3 fD hDc hacc => ?_
      · rw [dp_str] at hy
        subst hy
        intro Yes No n0 n1
        refine ⟨rfl, _, rfl, rfl, _, rfl, ?_⟩
        by_cases c1 : z = ""
        · exact iteNo (by simp [c1]) (n0 (by simp [c1]) _ _ (Gr.refl g1.fh) True.intro)
        · refine iteYes (by simp [c1]) ⟨_, rfl, _, rfl, .mk ⟨L, _, rfl, .inl (.inl (.inl (sees_lst g1.fh (g1.ff _ _ hL)))), rfl, flat_strs _, _, rfl, ?_⟩⟩
          rw [inV_strs]
          by_cases c2 : z ∈ l
          · exact iteNo (by simp [c2]) (n0 (by simp [c2]) _ _ (Gr.refl g1.fh) True.intro)
          · exact iteYes (by simp [c2]) ⟨_, rfl, n1 (by simp [c1, c2]) _ _ _ (Gr.refl g1.fh) (.str _)⟩
      · rw [dps_str] at hacc
        subst hacc
        have l2l : ((m b).filter fun z : Str => decide (z ≠ "") && !decide (z ∈ l)).length ≤ 6 := Nat.le_trans (List.length_filter_le _ _) m6
        refine ⟨L, D, _, _, rfl, rfl, sees_lst g3.fh (g3.ff _ _ hL), hDc, by rw [List.length_map, List.length_map]; omega, fun N hN => ?_⟩
        refine ⟨_, _, _, N, l ++ (m b).filter (fun z : Str => decide (z ≠ "") && !decide (z ∈ l)), rfl, (g.trans g3).new hN, by rw [List.map_append]; exact upd_same, List.nodup_append.mpr ⟨nd, mnd.sublist List.filter_sublist, fun x hx y hy e => ?_⟩, by rw [List.length_append]; omega, fun z => ?_⟩
        · subst e
          have := (List.mem_filter.mp hy).2
          simp [hx] at this
        · rw [List.mem_append, List.mem_filter, tk]
          by_cases c1 : z = ""
          · have nl : z ∉ l := fun h => ((mem z).mp h).1 c1
            simp [c1, nl]
            rw [← c1]
            exact nl
          · by_cases c2 : z ∈ l
            · have c3 := ((mem z).mp c2).2
              simp [c1, c2]
              obtain ⟨k, hk1, hk2⟩ := c3
              exact .inl ⟨k, hk1, hk2⟩
            · have c3 : ¬ ∃ k ∈ ks2.take i, z ∈ m k := fun h => c2 ((mem z).mpr ⟨c1, h⟩)
              simp [c1, c2, or_and_right, exists_or, c3]
    · rintro σ' H' ⟨o3, o4, F', L, l, rfl, g, hL, nd, ll, mem⟩
      rw [List.take_length] at mem
      have gg := (g2.trans g)
      refine ⟨_, rfl, Str, eS, l, L, l.map V.str, F', rfl, g.fh, .inl (.inl (sees_lst g.fh hL)), dps_str.mpr rfl, alikeS l, sortableS l, fun b _ => eS_depth b, fun ys p hy hp => ?_⟩
      have pm : (l.mergeSort (PySem.W.dataLe false eS)).Perm l := List.mergeSort_perm _ _
      have gE := gg.new (o := .lst ys) hp
      refine q (.ref p) _ _ _ (pm.nodup_iff.mpr nd) (fun z => ?_) (.lst (.inl (.inl upd_same)) (hy.ex (Ex.new (g.fh.dm hp)))) gE
      rw [pm.mem_iff, mem z]
      exact and_congr Iff.rfl (exists_congr fun k => and_congr pk.mem_iff Iff.rfl)
end
end TW
set_option Elab.async false
set_option linter.all false
set_option maxRecDepth 100000
set_option maxHeartbeats 8000000
/-! drawn marks -/
namespace TW
open PySem PySem.Spec PyProof.Rows L2 RZ StX
open Evl (Ex)
theorem keysK_put_old {kvs : List (Key × V)} {k : Key} {v : V} (h : (valV kvs k).isSome = true) : (putK kvs k v).map (·.1) = kvs.map (·.1) := by
  have e := valV_any k kvs
  rw [h] at e
  unfold putK
  rw [if_pos e, List.map_map]
  refine List.map_congr_left fun p _ => ?_
  show (if p.1 = k then (p.1, v) else p).1 = p.1
  split <;> rfl
/-- put once or more -/
theorem Tells.put_old {K : PySem.W.Frag} {F : Hp} {acc : List (Key × V)} {ks : List Str} {m m' : Str → List Str} {enc : List PyData → PyData} {b : Str} {z : V} (h : Tells K F acc ks m enc) (hb : b ∈ ks) (hm : ∀ s, s ≠ b → m' s = m s) (hz : Dp K F z (enc ((m' b).map .str))) :
    Tells K F (putK acc (Sum.inr b) z) ks m' enc := by
  obtain ⟨v, v1, _⟩ := h.va b hb
  refine ⟨by rw [keysK_put_old (by rw [v1]; rfl)]; exact h.ke, fun s hs => ?_⟩
  rw [valV_put]
  by_cases e : s = b
  · subst e
    exact ⟨z, by rw [if_pos rfl], hz⟩
  · rw [if_neg fun q => e (Sum.inr.inj q), hm s e]
    exact h.va s hs
def okM (sounds : List Str) (l : List Str) : Prop := 1 ≤ l.length ∧ l.length ≤ 6 ∧ l.Nodup ∧ ∀ z ∈ l, z = "" ∨ z ∈ sounds
/-- while the marks of b are drawn: l they are -/
structure MSt (K : PySem.W.Frag) (F0 H1 : Hp) (p D : Addr) (sounds : List Str) (i : Nat) (b : Str) (l : List Str) (F3 H3 : Hp) (kvs : List (Key × V)) (m : Str → List Str) (t3 : Int) : Prop where
  g : Gr [p, D] F0 H1 F3 H3
  fD : F3 D = none
  hD : H3 D = some (.dK kvs)
  lk : kvs.length ≤ i + 1
  tl : Tells K F3 kvs (sounds.take (i + 1)) m .list
  mb : m b = l
  ok : ∀ k ∈ sounds.take i, okM sounds (m k)
  pe : PenAt K F3 H3 p t3
theorem MSt.put {K : PySem.W.Frag} {F0 H1 : Hp} {p D : Addr} {sounds : List Str} {i : Nat} {b : Str} {l l' : List Str} {F3 H3 : Hp} {kvs : List (Key × V)} {m : Str → List Str} {t3 : Int} {z : V} (h : MSt K F0 H1 p D sounds i b l F3 H3 kvs m t3) (hz : Dp K F3 z (.list (l'.map .str))) (n : p ≠ D)
    (hb : b ∈ sounds.take (i + 1)) (bn : b ∉ sounds.take i) : MSt K F0 H1 p D sounds i b l' F3 (upd H3 D (.dK (putK kvs (Sum.inr b) z))) (putK kvs (Sum.inr b) z) (fun s => if s = b then l' else m s) t3 where
  g := h.g.mut h.fD (.inl (by simp))
  fD := h.fD
  hD := upd_same
  lk := by
    obtain ⟨v, v1, _⟩ := h.tl.va b hb
    have e := congrArg List.length (keysK_put_old (kvs := kvs) (k := Sum.inr b) (v := z) (by rw [v1]; rfl))
    rw [List.length_map, List.length_map] at e
    have := h.lk
    omega
  tl := h.tl.put_old hb (fun s hs => if_neg hs) (by rw [if_pos rfl]; exact hz)
  mb := if_pos rfl
  ok := fun k hk => by
    have hne : k ≠ b := fun e => bn (e ▸ hk)
    show okM sounds (if k = b then l' else m k)
    rw [if_neg hne]
    exact h.ok k hk
  pe := h.pe.upd' n
theorem MSt.gr {K : PySem.W.Frag} {F0 H1 : Hp} {p D : Addr} {sounds : List Str} {i : Nat} {b : Str} {l : List Str} {F3 H3 F4 H4 : Hp} {kvs : List (Key × V)} {m : Str → List Str} {t3 t4 : Int} (h : MSt K F0 H1 p D sounds i b l F3 H3 kvs m t3) (n : p ≠ D) (g : Gr [p] F3 H3 F4 H4) (pe : PenAt K F4 H4 p t4) : MSt K F0 H1 p D sounds i b l F4 H4 kvs m t4 where
  g := h.g.trans g fun b hb => .inl (by rw [List.mem_singleton.mp hb]; simp)
  fD := g.none' h.fD (by rw [h.hD]; exact fun z => nomatch z)
  hD := g.hh D _ (by simpa using Ne.symm n) h.hD
  lk := h.lk
  tl := h.tl.ex g.ff
  mb := h.mb
  ok := h.ok
  pe := pe
def spLMarks (K : PySem.W.Frag) : Sp := fun vs H Q _ => ∃ (F : Hp) (p : Addr) (v : V) (sounds : List Str) (t : Int), vs = [.ref p, v, .bl false] ∧ Sees F H ∧ PenAt K F H p t ∧ Dp K F v (.list (sounds.map .str)) ∧ sounds.Nodup ∧ 0 < sounds.length ∧ sounds.length ≤ 20 ∧ t + 2 * sounds.length ≤ 1000000 ∧ ("" : Str) ∉ sounds ∧
  ∀ (a : Addr) (kvs : List (Key × V)) (m : Str → List Str) (t' : Int) F' H', F' a = some (.dK kvs) → H' a = some (.dK kvs) → Tells K F' kvs sounds m .list → (∀ k ∈ sounds, okM sounds (m k)) → t ≤ t' → t' ≤ t + 2 * sounds.length → Gr [p] F H F' H' → PenAt K F' H' p t' → Q (.ref a) H'
section
variable {P : Program} {w : World} {K : PySem.W.Frag} {mg : Str → Option Value} {base : Heap}
theorem ok_lmarks {f : Addr} {fd : FuncData} (F : FunD K "_law_marks" "_law_marks" (defArgs s__law_marks) (defBody s__law_marks) (defScope s__law_marks) [.bl false] [] f fd) (T : Txt mg) (C__law_draw : Cal P w K mg base "_law_draw" 1 ["pen", "many"] [] (spDraw K)) (C__law_pick : Cal P w K mg base "_law_pick" 2 ["pen", "some"] [] (spPick K)) (C__law_shuffled : Cal P w K mg base "_law_shuffled" 2 ["pen", "some"] [] (spShuf K)) :
    FnOk P w K mg base CX0 3 f fd ["pen", "sounds", "is_wide"] (spLMarks K) := by
  refine okD F sc__law_marks (fun vs H Q E h => ?_) (fun cdv A outer s H vs Q E hr h => ?_)
  · obtain ⟨F0, p, v, sounds, t, rfl, _⟩ := h
    rfl
  · obtain ⟨F0, p, v, sounds, t, rfl, fs, hp, hv, nd, s0, s20, ht, ne, q⟩ := h
    have hu := hu_of hr
    have hu8 := hu8_of hr
    have hu16 := hu16_of hr
    have lz : 100000 < sizeLine := by rw [sizeLine_eq]; decide
    refine ⟨_, (pss_cons (zs (i := 3) sc__law_marks.nd pe_dnewK)
      (pss_cons (ps_for PassesOwn.never rfl (zseq K (pv 1)) (zg (i := 4) sc__law_marks.nd)
        (pss_cons (zs (i := 5) sc__law_marks.nd (pe_cal C__law_draw (hr.mono (by decide)) (pa_cons (pv 0) (pa_cons (pe_ifExp (ztruth K (pv 2)) pe_int pe_int) pa_nil))))
        (pss_cons (ps_dput hu (pv 3) (pv 4) (pe_lst (pa_cons (pv 4) pa_nil)) rfl)
        (pss_cons (ps_if (pt_cmpR op_eq (pv 5) pe_int (nomark _))
          (pss_one (ps_dput hu (pv 3) (pv 4) (pe_lst (pa_cons pe_str pa_nil)) rfl))
          pss_nil)
        (pss_cons (ps_if (pt_cmpR op_eq (pv 5) pe_int (nomark _))
          (pss_one (ps_dput hu (pv 3) (pv 4) (pe_lst (pa_cons pe_str (pa_cons (pv 4) pa_nil))) rfl))
          pss_nil)
        (pss_cons (ps_if (pt_cmpR op_eq (pv 5) pe_int (nomark _))
          (pss_one (ps_dput hu (pv 3) (pv 4) (pe_lst (pa_cons (pe_cal C__law_pick (hr.mono (by decide)) (pa_cons (pv 0) (pa_cons (pv 1) pa_nil))) pa_nil)) rfl))
          pss_nil)
        (pss_cons (ps_if (pt_cmpR op_eq (pv 5) pe_int (nomark _))
          (pss_one (ps_dput hu (pv 3) (pv 4) (pe_callB (cr_sortedKS w hu8) (by rfl) T.sorted bt_sorted (pa_cons (pe_callTy (cr_setK K w) (by rfl) T.set bt_set (pa_cons (pe_lst (pa_cons (pv 4) (pa_cons (pe_cal C__law_pick (hr.mono (by decide)) (pa_cons (pv 0) (pa_cons (pv 1) pa_nil))) pa_nil))) pa_nil)) pa_nil)) rfl))
          pss_nil)
        (pss_one (ps_if (pt_cmpR op_eq (pv 5) pe_int (nomark _))
          (pss_one (ps_dput hu (pv 3) (pv 4) (pe_callB (cr_sortedD K hu16) (by rfl) T.sorted bt_sorted (pa_cons (pe_slice (sl_LA K) (pe_cal C__law_shuffled (hr.mono (by decide)) (pa_cons (pv 0) (pa_cons (pe_lst (pa_cons pe_str (pa_cons (pv 4) (pa_cons pe_str (pa_cons pe_str (pa_cons pe_str (pa_cons pe_str pa_nil))))))) pa_nil))) po_none (po_some (pe_op op_add pe_int (pe_cal C__law_draw (hr.mono (by decide)) (pa_cons (pv 0) (pa_cons pe_int pa_nil)))))) pa_nil)) rfl))
          pss_nil)))))))))
      (pss_one (ps_ret (pv 3))))), ?_⟩
    obtain ⟨op, hpo⟩ := hp.at
    refine fun D hD => ?_
    have nDp : p ≠ D := ne_of_none hpo hD
    have g0 := (Gr.refl (B := [p, D]) fs).newM (o := .dK []) hD
    have hp0 := hp.upd' (o := .dK []) nDp
    have hD0 : upd H D (.dK []) D = some (.dK []) := upd_same
    have fD0 := fs.dm hD
    generalize upd H D (.dK []) = H1 at g0 hp0 hD0 ⊢
    refine ⟨_, rfl, seq_walk hv (.inl rfl) g0.fh fun J xs G w1 hG hxs hlen => ?_⟩
    rw [hlen, List.length_map] at w1
    refine for_it w1 (fun i σ' H' => ∃ (o4 o5 : Option V) (F' : Hp) (kvs : List (Key × V)) (m : Str → List Str) (t' : Int), σ' = [some (.ref p), some v, some (.bl false), some (.ref D), o4, o5] ∧ Gr [p, D] F0 H1 F' H' ∧ F' D = none ∧ H' D = some (.dK kvs) ∧ kvs.length ≤ i ∧
        Tells K F' kvs (sounds.take i) m .list ∧ (∀ k ∈ sounds.take i, okM sounds (m k)) ∧ PenAt K F' H' p t' ∧ t ≤ t' ∧ t' ≤ t + 2 * i)
      ⟨none, none, F0, [], fun _ => [], t, rfl, Gr.refl g0.fh, fD0, hD0, Nat.zero_le _, ⟨rfl, by simp⟩, by simp, hp0, Int.le_refl _, by omega⟩ (fun i σ' H' _ ⟨_, _, F', _, _, _, _, g, _⟩ => hG H' (fun a o e => g.fh a o (g.ff a o e))) ?_ ?_
    · rintro i y σ' H' H'' hi ⟨o4, o5, F', kvs, m, t', rfl, g, fD, hDk, lk, tl, okm, hp', u1, u2⟩ ⟨rfl, hyi⟩
      have hi' : i < sounds.length := hi
      obtain ⟨d, k1, k2⟩ := hxs.get hyi
      rw [List.getElem?_map] at k1
      obtain ⟨b, hb, rfl⟩ := Option.map_eq_some_iff.mp k1
      rw [dp_str] at k2
      subst k2
      have bm : b ∈ sounds := List.mem_of_getElem? hb
      have tk : sounds.take (i + 1) = sounds.take i ++ [b] := by rw [List.take_add_one, hb]; rfl
      have bn : b ∉ sounds.take i := fun h => by
        have z : (sounds.take (i + 1)).Nodup := nd.sublist (List.take_sublist _ _)
        rw [tk] at z
        exact (List.nodup_append.mp z).2.2 b h b (by simp) rfl
      have bne : b ≠ "" := fun e => ne (e ▸ bm)
      have nDo : ∀ {F3 H3}, Gr [p] F' H'' F3 H3 → F3 D = none ∧ H3 D = some (.dK kvs) := fun g => ⟨g.none' fD (by rw [hDk]; exact fun z => nomatch z), g.hh D _ (by simpa using Ne.symm nDp) hDk⟩
      have hD0' : H1 D ≠ none := by rw [hD0]; exact fun z => nomatch z
      refine ⟨_, rfl, _, rfl, false, rfl, iteF ?_⟩
      refine ⟨F', p, 8, t', rfl, g.fh, hp', by omega, by decide, by decide, fun way t1 F2 H2 w0 w8 v1 v2 g2 hp2 => ?_⟩
      obtain ⟨fD2, hDk2⟩ := nDo g2
      have g02 := g.trans g2 fun b hb => .inl (by rw [List.mem_singleton.mp hb]; simp)
      refine ⟨_, rfl, by show 1 ≤ sizeLine; omega, fun L0 hL0 => ?_⟩
      have hbt : b ∈ sounds.take (i + 1) := by rw [tk]; simp
      have lst : ∀ {F3 H3 F4 H4 : Hp} {l0 : List Str} {kv0 : List (Key × V)} {m0 : Str → List Str} {t3 : Int} {l' : List Str} {L : Addr}, MSt K F0 H1 p D sounds i b l0 F3 H3 kv0 m0 t3 → Gr [] F3 H3 F4 H4 → F4 L = some (.lst (l'.map V.str)) → MSt K F0 H1 p D sounds i b l' F4 (upd H4 D (.dK (putK kv0 (Sum.inr b) (.ref L)))) (putK kv0 (Sum.inr b) (.ref L)) (fun s => if s = b then l' else m0 s) t3 :=
        fun h g hL => (h.gr nDp (g.mono fun _ hb => absurd hb (by simp)) (h.pe.gr g (by simp))).put (.lst (.inl (.inl hL)) (dps_str.mpr rfl)) nDp hbt bn
      -- the first list
      have gL0 := g02.new (o := .lst [.str b]) hL0
      have e0 : Ex F2 (upd F2 L0 (.lst [.str b])) := Ex.new (g2.fh.dm hL0)
      have ne0 : L0 ≠ D := (ne_of_none hDk2 hL0).symm
      refine ⟨_, rfl, _, rfl, D, _, rfl, DPut.k (k := Sum.inr b) (by rw [upd_ne (Ne.symm ne0)]; exact hDk2) (by omega), ?_⟩
      have s1 : MSt K F0 H1 p D sounds i b [b] (upd F2 L0 (.lst [.str b])) (upd (upd H2 L0 (.lst [.str b])) D (.dK (putK kvs (Sum.inr b) (.ref L0)))) (putK kvs (Sum.inr b) (.ref L0)) (fun s => if s = b then [b] else m s) t1 := by
        have fD3 : upd F2 L0 (.lst [.str b]) D = none := by rw [upd_ne (Ne.symm ne0)]; exact fD2
        refine ⟨gL0.mut fD3 (.inl (by simp)), fD3, upd_same, by have := length_putK kvs (Sum.inr b : Key) (V.ref L0); omega, ?_, if_pos rfl, fun k hk => ?_, (hp2.gr ((Gr.refl (B := []) g2.fh).new hL0) (by simp)).upd' nDp⟩
        · have tl' : Tells K (upd F2 L0 (.lst [.str b])) kvs (sounds.take i) (fun s => if s = b then [b] else m s) .list := by
            refine ⟨tl.ke, fun s hs => ?_⟩
            obtain ⟨v', v1', v2'⟩ := tl.va s hs
            refine ⟨v', v1', ?_⟩
            rw [show (if s = b then [b] else m s) = m s from if_neg fun (e : s = b) => bn (by rw [← e]; exact hs)]
            exact (v2'.ex g2.ff).ex e0
          exact tells_put tl' nd hb (by rw [if_pos rfl]; exact .lst (.inl (.inl upd_same)) (.cons (.str b) .nil))
        · show okM sounds (if k = b then [b] else m k)
          rw [if_neg fun (e : k = b) => bn (by rw [← e]; exact hk)]
          exact okm k hk
      generalize upd (upd H2 L0 (.lst [.str b])) D (.dK (putK kvs (Sum.inr b) (.ref L0))) = H3 at s1 ⊢
      generalize putK kvs (Sum.inr b) (.ref L0) = kv3 at s1
      generalize upd F2 L0 (.lst [.str b]) = F3 at s1
      generalize (fun s => if s = b then [b] else m s) = m3 at s1
      have fin : ∀ (l : List Str) F4 H4 kv4 m4 t4, MSt K F0 H1 p D sounds i b l F4 H4 kv4 m4 t4 → okM sounds l → t1 ≤ t4 → t4 ≤ t1 + 1 → ∃ (o4 o5 : Option V) (F' : Hp) (kvs : List (Key × V)) (m : Str → List Str) (t' : Int), [some (.ref p), some v, some (.bl false), some (.ref D), some (.str b), some (.int way)] = [some (.ref p), some v, some (.bl false), some (.ref D), o4, o5] ∧ Gr [p, D] F0 H1 F' H4 ∧ F' D = none ∧ H4 D = some (.dK kvs) ∧ kvs.length ≤ i + 1 ∧
          Tells K F' kvs (sounds.take (i + 1)) m .list ∧ (∀ k ∈ sounds.take (i + 1), okM sounds (m k)) ∧ PenAt K F' H4 p t' ∧ t ≤ t' ∧ t' ≤ t + 2 * (i + 1 : Nat) := fun l F4 H4 kv4 m4 t4 h hl x1 x2 =>
        ⟨_, _, F4, kv4, m4, t4, rfl, h.g, h.fD, h.hD, h.lk, h.tl, fun k hk => by
          rw [tk, List.mem_append, List.mem_singleton] at hk
          rcases hk with hk | rfl
          · exact h.ok k hk
          · rw [h.mb]; exact hl, h.pe, by omega, by omega⟩
      have yes : ∀ {j : Int} {A B : Prop}, way = j → A → if decide (V.int way = V.int j) = true then A else B := fun e h => iteYes (by simp [e]) h
      have no : ∀ {j : Int} {A B : Prop}, way ≠ j → B → if decide (V.int way = V.int j) = true then A else B := fun e h => iteNo (by simp [e]) h
      have n8 : way ≠ 8 := by omega
      have sees3 := s1.g.fh
      by_cases c0 : way = 0
      · refine ⟨_, rfl, rfl, _, rfl, yes c0 ⟨by show 1 ≤ sizeLine; omega, fun L1 hL1 => ⟨_, rfl, _, rfl, D, _, rfl, DPut.k (k := Sum.inr b) (by rw [upd_ne (ne_of_none s1.hD hL1)]; exact s1.hD) (by have := s1.lk; omega), ?_⟩⟩⟩
        refine ⟨_, rfl, rfl, _, rfl, no (by omega) ⟨_, rfl, rfl, _, rfl, no (by omega) ⟨_, rfl, rfl, _, rfl, no (by omega) ⟨_, rfl, rfl, _, rfl, no n8 ?_⟩⟩⟩⟩
        exact fin _ _ _ _ _ _ (lst (l' := [("" : Str)]) s1 ((Gr.refl sees3).new hL1) upd_same) ⟨by simp, by simp, by simp, by simp⟩ (Int.le_refl _) (by omega)
      refine ⟨_, rfl, rfl, _, rfl, no c0 ?_⟩
      by_cases c1 : way = 1
      · refine ⟨_, rfl, rfl, _, rfl, yes c1 ⟨_, rfl, by show 2 ≤ sizeLine; omega, fun L1 hL1 => ⟨_, rfl, _, rfl, D, _, rfl, DPut.k (k := Sum.inr b) (by rw [upd_ne (ne_of_none s1.hD hL1)]; exact s1.hD) (by have := s1.lk; omega), ?_⟩⟩⟩
        refine ⟨_, rfl, rfl, _, rfl, no (by omega) ⟨_, rfl, rfl, _, rfl, no (by omega) ⟨_, rfl, rfl, _, rfl, no n8 ?_⟩⟩⟩
        exact fin _ _ _ _ _ _ (lst (l' := [("" : Str), b]) s1 ((Gr.refl sees3).new hL1) upd_same) ⟨by simp, by simp, by simpa using Ne.symm bne, by simp [bm]⟩ (Int.le_refl _) (by omega)
      refine ⟨_, rfl, rfl, _, rfl, no c1 ?_⟩
      have pick : ∀ {R : VK}, (∀ (z : Str) t4 F4 H4, z ∈ sounds → t1 ≤ t4 → t4 ≤ t1 + 1 → Gr [p] F3 H3 F4 H4 → PenAt K F4 H4 p t4 → R (.str z) H4) → (spPick K) [.ref p, v] H3 R E0 := fun k =>
        ⟨F3, p, v, _, _, t1, rfl, sees3, s1.pe, by omega, hv.ex s1.g.ff, .inl rfl, by rw [List.length_map]; exact s0, by rw [List.length_map]; omega, fun r e t4 F4 H4 em hr' x1 x2 g4 hp4 => by
          obtain ⟨z, zm, rfl⟩ := List.mem_map.mp em
          rw [dp_str] at hr'
          subst hr'
          exact k z t4 F4 H4 zm x1 x2 g4 hp4⟩
      by_cases c2 : way = 2
      · refine ⟨_, rfl, rfl, _, rfl, yes c2 ⟨_, rfl, _, rfl, pick fun z t4 F4 H4 zm x1 x2 g4 hp4 => ⟨by show 1 ≤ sizeLine; omega, fun L1 hL1 => ?_⟩⟩⟩
        have s4 := s1.gr nDp g4 hp4
        refine ⟨_, rfl, _, rfl, D, _, rfl, DPut.k (k := Sum.inr b) (by rw [upd_ne (ne_of_none s4.hD hL1)]; exact s4.hD) (by have := s4.lk; omega), ?_⟩
        refine ⟨_, rfl, rfl, _, rfl, no (by omega) ⟨_, rfl, rfl, _, rfl, no n8 ?_⟩⟩
        exact fin _ _ _ _ _ _ (lst (l' := [z]) s4 ((Gr.refl s4.g.fh).new hL1) upd_same) ⟨by simp, by simp, by simp, by simp [zm]⟩ x1 x2
      refine ⟨_, rfl, rfl, _, rfl, no c2 ?_⟩
      by_cases c3 : way = 3
      · refine ⟨_, rfl, rfl, _, rfl, yes c3 ⟨_, rfl, _, rfl, _, rfl, pick fun z t4 F4 H4 zm x1 x2 g4 hp4 => ⟨by show 2 ≤ sizeLine; omega, fun L1 hL1 => ?_⟩⟩⟩
        have s4 := s1.gr nDp g4 hp4
        have ga := (Gr.refl (B := []) s4.g.fh).newM (o := .lst [.str b, .str z]) hL1
        refine ⟨L1, [b, z].map Sum.inr, rfl, .inl (.inl (.inl upd_same)), by simp, fun q1 n hq1 hn hex => ?_⟩
        have gb := ga.newM (o := SKO w q1 ([b, z].map Sum.inr) n) hq1
        refine ⟨q1, [b, z], n, rfl, upd_same, fun ns L2 srt nnd mem len hL2 => ?_⟩
        have gc := gb.new (o := .lst (ns.map V.str)) hL2
        have hDc := (gc.at s4.hD)
        refine ⟨_, rfl, _, rfl, D, _, rfl, DPut.k (k := Sum.inr b) hDc (by have := s4.lk; omega), ?_⟩
        refine ⟨_, rfl, rfl, _, rfl, no n8 ?_⟩
        refine fin _ _ _ _ _ _ (lst (l' := ns) s4 gc upd_same) ⟨?_, ?_, nnd, fun y hy => ?_⟩ x1 x2
        · have : b ∈ ns := (mem b).mpr (by simp)
          exact List.length_pos_of_mem this
        · have z6 := nodup_le (l := ns) (m := [b, z]) nnd fun y hy => (mem y).mp hy
          simp at z6
          omega
        · have := (mem y).mp hy
          simp at this
          rcases this with rfl | rfl
          · exact .inr bm
          · exact .inr zm
      refine ⟨_, rfl, rfl, _, rfl, no c3 ⟨_, rfl, rfl, _, rfl, no n8 ?_⟩⟩
      exact fin _ _ _ _ _ _ s1 ⟨by simp, by simp, by simp, by simp [bm]⟩ (Int.le_refl _) (by omega)
    · rintro σ' H' ⟨o4, o5, F', kvs, m, t', rfl, g, fD, hDk, lk, tl, okm, hp', u1, u2⟩
      rw [List.take_length] at tl okm
      have hD0' : H D = none := hD
      have gd : Gr [p] F0 H (upd F' D (.dK kvs)) H' := ((g0.mono (B' := [p]) (fun b hb => by
        rcases List.mem_cons.mp hb with rfl | hb
        · exact .inl (by simp)
        · rw [List.mem_singleton.mp hb]; exact .inr hD)).trans g (fun b hb => by
        rcases List.mem_cons.mp hb with rfl | hb
        · exact .inl (by simp)
        · rw [List.mem_singleton.mp hb]; exact .inr hD)).done hD fD hDk
      refine ⟨_, rfl, q D kvs m t' _ _ upd_same hDk (tl.ex (Ex.new fD)) okm u1 u2 gd ?_⟩
      obtain ⟨f, c, r, cells, a1, a2, a3⟩ := hp'
      exact ⟨by rw [upd_ne nDp]; exact f, c, r, cells, a1, a2.ex (Ex.new fD), a3⟩
end
end TW
set_option Elab.async false
set_option linter.all false
set_option maxRecDepth 100000
set_option maxHeartbeats 8000000
/-! a drawn plain world -/
namespace TW
open PySem PySem.Spec PyProof.Rows L2 RZ StX
open Evl (Ex)
/-- a plain world -/
structure PlainOk (many : Int) (number : Nat) (sounds : List Str) (A : List Arr) (S : List Int) (m : Str → List Str) : Prop where
  so : sounds = (["a", "b"] : List Str) ∨ sounds = (["a", "b", "c"] : List Str) ∨ sounds = (["a", "b", "h"] : List Str)
  nd : A.Nodup
  len : A.length ≤ number
  ar : ∀ a ∈ A, 0 ≤ a.1 ∧ a.1 < many ∧ a.2.1 ∈ sounds ∧ 0 ≤ a.2.2 ∧ a.2.2 < many
  srt : S.Pairwise (· < ·)
  st : ∀ z ∈ S, 0 ≤ z ∧ z < many
  ne : S ≠ []
  sl : S.length ≤ 3
  mks : ∀ k ∈ sounds, okM sounds (m k)
theorem PlainOk.facts {sounds : List Str} (so : sounds = (["a", "b"] : List Str) ∨ sounds = (["a", "b", "c"] : List Str) ∨ sounds = (["a", "b", "h"] : List Str)) : sounds.Nodup ∧ 0 < sounds.length ∧ sounds.length ≤ 3 ∧ ("" : Str) ∉ sounds ∧ ∀ z ∈ sounds, PyData.strOk z = true ∧ z.length = 1 ∧ isSound (.str z) = true ∧ isHeard (.str z) = true := by
  rcases so with rfl | rfl | rfl <;> decide +kernel
def spLPlain (K : PySem.W.Frag) : Sp := fun vs H Q _ => ∃ (F : Hp) (p : Addr) (many : Int) (number : Nat) (t : Int), vs = [.ref p, .int many, .int number] ∧ Sees F H ∧ PenAt K F H p t ∧ t + 3 * number + 20 ≤ 1000000 ∧ 0 < many ∧ many < 1000 ∧ number ≤ 100 ∧
  ∀ (r a : Addr) (va vst : V) (kvs : List (Key × V)) (sounds : List Str) (A : List Arr) (S : List Int) (m : Str → List Str) (t' : Int) F' H', F' r = some (.tup [va, vst, .ref a]) → F' a = some (.dK kvs) → H' a = some (.dK kvs) → Dp K F' va (.list (A.map encA)) → Dp K F' vst (.list (S.map .int)) → Tells K F' kvs sounds m .list → PlainOk many number sounds A S m →
    t ≤ t' → t' ≤ t + 3 * number + 20 → Gr [p] F H F' H' → PenAt K F' H' p t' → Q (.ref r) H'
section
variable {P : Program} {w : World} {K : PySem.W.Frag} {mg : Str → Option Value} {base : Heap}
theorem ok_lplain {f : Addr} {fd : FuncData} (F : Fun K "_law_plain" "_law_plain" s__law_plain f fd) (T : Txt mg) (C__law_draw : Cal P w K mg base "_law_draw" 1 ["pen", "many"] [] (spDraw K)) (C__law_pick : Cal P w K mg base "_law_pick" 2 ["pen", "some"] [] (spPick K)) (C__law_arrows : Cal P w K mg base "_law_arrows" 3 ["pen", "many", "sounds", "number"] [] (spArrows K))
    (C__law_marks : Cal P w K mg base "_law_marks" 3 ["pen", "sounds", "is_wide"] [.bl false] (spLMarks K)) :
    FnOk P w K mg base CX0 4 f fd ["pen", "many", "number"] (spLPlain K) := by
  refine F.ok sc__law_plain (fun vs H Q E h => ?_) (fun cdv A outer s H vs Q E hr h => ?_)
  · obtain ⟨F0, p, many, number, t, rfl, _⟩ := h
    rfl
  · obtain ⟨F0, p, many, number, t, rfl, fs, hp, ht, m0, m1, n1, q⟩ := h
    have hu := hu_of hr
    have hu8 := hu8_of hr
    have lz : 100000 < sizeLine := by rw [sizeLine_eq]; decide
    refine ⟨_, (pss_cons (zs (i := 3) sc__law_plain.nd (pe_cal C__law_pick (hr.mono (by decide)) (pa_cons (pv 0) (pa_cons (pe_lst (pa_cons (pe_lst (pa_cons pe_str (pa_cons pe_str pa_nil))) (pa_cons (pe_lst (pa_cons pe_str (pa_cons pe_str (pa_cons pe_str pa_nil)))) (pa_cons (pe_lst (pa_cons pe_str (pa_cons pe_str (pa_cons pe_str pa_nil)))) pa_nil)))) pa_nil))))
      (pss_cons (zs (i := 4) sc__law_plain.nd (pe_cal C__law_arrows (hr.mono (by decide)) (pa_cons (pv 0) (pa_cons (pv 1) (pa_cons (pv 3) (pa_cons (pv 2) pa_nil))))))
      (pss_cons (zs (i := 5) sc__law_plain.nd (pe_callB (cr_sortedKI w hu8) (by rfl) T.sorted bt_sorted (pa_cons (pe_callTy (cr_setK K w) (by rfl) T.set bt_set (pa_cons (pe_op op_cat (pe_lst (pa_cons pe_int pa_nil)) (pe_lc (own := [("turn", 6)]) rfl sc__law_plain.nd (pi_range1 rfl T.range (pa_cons (pe_cal C__law_draw (hr.mono (by decide)) (pa_cons (pv 0) (pa_cons pe_int pa_nil))) pa_nil)) (blkOk_by (N := sc__law_plainN) (sc := defScope s__law_plain) (by decide +kernel)) (fun _ _ _ _ _ => (zg (i := 6) sc__law_plain.nd)) (fun _ _ _ _ _ => pts_nil) (fun _ _ _ _ _ => (pe_cal C__law_draw (hr.mono (by decide)) (pa_cons (pv 0) (pa_cons (pv 1) pa_nil)))))) pa_nil)) pa_nil)))
      (pss_one (ps_ret (pe_tup (pa_cons (pv 4) (pa_cons (pv 5) (pa_cons (pe_cal C__law_marks (hr.mono (by decide)) (pa_cons (pv 0) (pa_cons (pv 3) pa_nil))) pa_nil))))))))), ?_⟩
    obtain ⟨op, hpo⟩ := hp.at
    have par : ∀ {F' H' F'' H''}, Gr [] F' H' F'' H'' → PenAt K F' H' p t → PenAt K F'' H'' p t := fun g h => h.gr g (by simp)
    refine ⟨_, rfl, by show 2 ≤ sizeLine; omega, fun L1 hL1 => ⟨by show 3 ≤ sizeLine; omega, fun L2 hL2 => ⟨by show 3 ≤ sizeLine; omega, fun L3 hL3 => ⟨by show 3 ≤ sizeLine; omega, fun L4 hL4 => ?_⟩⟩⟩⟩
    have g1 := (Gr.refl (B := []) fs).new (o := .lst [.str "a", .str "b"]) hL1
    have g2 := g1.new (o := .lst [.str "a", .str "b", .str "c"]) hL2
    have g3 := g2.new (o := .lst [.str "a", .str "b", .str "h"]) hL3
    have g4 := g3.new (o := .lst [.ref L1, .ref L2, .ref L3]) hL4
    have d1 : Dp K (upd F0 L1 (.lst [.str "a", .str "b"])) (.ref L1) (.list ((["a", "b"] : List Str).map .str)) := .lst (.inl (.inl upd_same)) (.cons (.str _) (.cons (.str _) .nil))
    have d2 : Dp K (upd (upd F0 L1 (.lst [.str "a", .str "b"])) L2 (.lst [.str "a", .str "b", .str "c"])) (.ref L2) (.list ((["a", "b", "c"] : List Str).map .str)) := .lst (.inl (.inl upd_same)) (.cons (.str _) (.cons (.str _) (.cons (.str _) .nil)))
    have d3 : Dp K (upd (upd (upd F0 L1 (.lst [.str "a", .str "b"])) L2 (.lst [.str "a", .str "b", .str "c"])) L3 (.lst [.str "a", .str "b", .str "h"])) (.ref L3) (.list ((["a", "b", "h"] : List Str).map .str)) := .lst (.inl (.inl upd_same)) (.cons (.str _) (.cons (.str _) (.cons (.str _) .nil)))
    have x2 := Ex.new (o := HO.lst [.str "a", .str "b", .str "c"]) (g1.fh.dm hL2)
    have x3 := Ex.new (o := HO.lst [.str "a", .str "b", .str "h"]) (g2.fh.dm hL3)
    have x4 := Ex.new (o := HO.lst [.ref L1, .ref L2, .ref L3]) (g3.fh.dm hL4)
    have d4 : Dp K _ (.ref L4) (.list [.list ((["a", "b"] : List Str).map .str), .list ((["a", "b", "c"] : List Str).map .str), .list ((["a", "b", "h"] : List Str).map .str)]) := .lst (.inl (.inl (upd_same (H := upd (upd (upd F0 L1 (.lst [.str "a", .str "b"])) L2 (.lst [.str "a", .str "b", .str "c"])) L3 (.lst [.str "a", .str "b", .str "h"])))))
      (.cons (((d1.ex x2).ex x3).ex x4) (.cons ((d2.ex x3).ex x4) (.cons (d3.ex x4) .nil)))
    have hp4 := par g4 hp
    generalize upd (upd (upd (upd F0 L1 (.lst [.str "a", .str "b"])) L2 (.lst [.str "a", .str "b", .str "c"])) L3 (.lst [.str "a", .str "b", .str "h"])) L4 (.lst [.ref L1, .ref L2, .ref L3]) = F4 at g4 d4 hp4
    generalize upd (upd (upd (upd H L1 (.lst [.str "a", .str "b"])) L2 (.lst [.str "a", .str "b", .str "c"])) L3 (.lst [.str "a", .str "b", .str "h"])) L4 (.lst [.ref L1, .ref L2, .ref L3]) = H4 at g4 hp4 ⊢
    clear g1 g2 g3 d1 d2 d3 x2 x3 x4 hL1 hL2 hL3 hL4
    refine ⟨F4, p, _, _, _, t, rfl, g4.fh, hp4, by omega, d4, .inl rfl, by simp, by simp, fun v5 e5 t5 F5 H5 em hv5 u1 u2 g5 hp5 => ?_⟩
    obtain ⟨sounds, rfl, so⟩ : ∃ sounds : List Str, e5 = .list (sounds.map .str) ∧ (sounds = (["a", "b"] : List Str) ∨ sounds = (["a", "b", "c"] : List Str) ∨ sounds = (["a", "b", "h"] : List Str)) := by
      rcases List.mem_cons.mp em with rfl | em
      · exact ⟨_, rfl, .inl rfl⟩
      rcases List.mem_cons.mp em with rfl | em
      · exact ⟨_, rfl, .inr (.inl rfl)⟩
      · rw [List.mem_singleton.mp em]; exact ⟨_, rfl, .inr (.inr rfl)⟩
    obtain ⟨snd, s0, s3, sne, sOk⟩ := PlainOk.facts so
    have g05 : Gr [p] F0 H F5 H5 := (g4.mono (B' := [p]) (fun b hb => absurd hb (by simp))).trans g5 fun b hb => .inl hb
    -- arrows
    refine ⟨_, rfl, _, rfl, _, rfl, _, rfl, F5, p, v5, sounds, many, number, t5, rfl, g5.fh, hp5, by omega, m0, m1, by omega, hv5, s0, by omega, fun z hz => (sOk z hz).1, fun v6 AA t6 F6 H6 Ann Al Aok hv6 u3 u4 g6 hp6 => ?_⟩
    have g06 : Gr [p] F0 H F6 H6 := g05.trans g6 fun b hb => .inl hb
    -- starts
    refine ⟨by show 1 ≤ sizeLine; omega, fun L5 hL5 => ?_⟩
    have g7 := g06.newM (o := .lst [.int 0]) hL5
    have hp7 := hp6.upd' (o := .lst [.int 0]) (ne_of_none hp6.at.choose_spec hL5)
    have h7 : upd H6 L5 (.lst [.int 0]) L5 = some (.lst [.int 0]) := upd_same
    have fL5 := g06.fh.dm hL5
    have npL5 : p ≠ L5 := ne_of_none hp6.at.choose_spec hL5
    generalize upd H6 L5 (.lst [.int 0]) = H7 at g7 hp7 h7 ⊢
    refine ⟨_, rfl, F6, p, 2, t6, rfl, g7.fh, hp7, by omega, by decide, by decide, fun d8 t8 F8 H8 a1 a2 u5 u6 g8 hp8 => ⟨d8, rfl, by omega, by omega, fun D hD => ?_⟩⟩
    have g08 : Gr [p] F0 H F8 H8 := g7.trans g8 fun b hb => .inl hb
    have h8 : H8 L5 = some (.lst [.int 0]) := g8.hh L5 _ (by simpa using Ne.symm npL5) h7
    have fL8 := g8.none' fL5 (by rw [h7]; exact fun z => nomatch z)
    obtain ⟨o8, ho8⟩ := hp8.at
    refine lc_st (B := [p]) walk_range g8.fh (fun b hb => by rw [List.mem_singleton.mp hb, ho8]; exact fun z => nomatch z) (fun i acc F' H' => ∃ t' ns, acc = ns.map V.int ∧ (∀ z ∈ ns, 0 ≤ z ∧ z < many) ∧ ns.length ≤ i ∧ PenAt K F' H' p t' ∧ t8 ≤ t' ∧ t' ≤ t8 + i) (fun i acc F' H' D o ⟨t', ns, h1, h2, h3, h4, h5⟩ hDn => ⟨t', ns, h1, h2, h3, h4.upd' (ne_of_none ho8 hDn), h5⟩)
      (fun _ _ _ _ _ _ _ => True.intro) ⟨t8, [], rfl, by simp, by simp, hp8, Int.le_refl _, by omega⟩ (by omega) (fun i acc x F' H' H'' hi hl gr ⟨t', ns, h1, h2, h3, h4, h5, h6⟩ y => ?_) hD fun acc F9 H9 g9 fD9 hD9 ⟨t9, ns, h1, h2, h3, h4, h5, h6⟩ => ?_
    · obtain ⟨rfl, rfl⟩ := y
      subst h1
      refine ⟨F', Gr.refl gr.fh, true, turn1 rfl fun Yes h => ⟨_, rfl, _, rfl, F', p, many, t', rfl, gr.fh, h4, by omega, m0, by omega, fun z t2 F3 H3 z0 z1 w1 w2 g3 hp3 => h _ _ _ g3 ⟨t2, ns ++ [z], by rw [List.map_append]; rfl, fun y hy => ?_, by simp; omega, hp3, by omega, by omega⟩⟩⟩
      rcases List.mem_append.mp hy with hy | hy
      · exact h2 y hy
      · rw [List.mem_singleton.mp hy]; exact ⟨z0, z1⟩
    · subst h1
      have lns : ns.length ≤ 2 := by omega
      have h9 : H9 L5 = some (.lst [.int 0]) := g9.hh L5 _ (by simpa using Ne.symm npL5) h8
      refine ⟨L5, D, _, _, rfl, rfl, h9, hD9, by simp; omega, fun N hN => ?_⟩
      have g09 : Gr [p] F0 H F9 H9 := g08.trans g9 fun b hb => .inl hb
      have ga := g09.newM (o := .lst ([.int 0] ++ ns.map V.int)) hN
      refine ⟨N, (0 :: ns).map Sum.inl, rfl, .inl (by rw [keys_int]; exact .inl (.inl upd_same)), by simp; omega, fun q1 n hq1 hn hex => ?_⟩
      have gb := ga.newM (o := SKO w q1 ((0 :: ns).map Sum.inl) n) hq1
      refine ⟨q1, 0 :: ns, n, rfl, upd_same, fun S p4 srt mem len hp4' => ?_⟩
      have gc := gb.new (o := .lst (S.map V.int)) hp4'
      have hpc : PenAt K _ _ p t9 := ((h4.upd' (o := .lst ([.int 0] ++ ns.map V.int)) (ne_of_none h4.at.choose_spec hN)).upd' (o := SKO w q1 ((0 :: ns).map Sum.inl) n) (ne_of_none (by rw [upd_ne (ne_of_none h4.at.choose_spec hN)]; exact h4.at.choose_spec) hq1)).gr ((Gr.refl (B := []) gb.fh).new (o := .lst (S.map V.int)) hp4') (by simp)
      have ec : Ex F6 (upd F9 p4 (.lst (S.map V.int))) := (g8.ff.trans g9.ff).trans (Ex.new (gb.fh.dm hp4'))
      have hS : Dp K (upd F9 p4 (.lst (S.map V.int))) (.ref p4) (.list (S.map .int)) := .lst (.inl (.inl upd_same)) (dps_int.mpr rfl)
      generalize upd (upd (upd H9 N (.lst ([.int 0] ++ ns.map V.int))) q1 (SKO w q1 ((0 :: ns).map Sum.inl) n)) p4 (.lst (S.map V.int)) = Hc at gc hpc ⊢
      generalize upd F9 p4 (.lst (S.map V.int)) = Fc at gc hpc ec hS
      have Sl : S.length ≤ 3 := by
        have z := nodup_le (l := S) (m := 0 :: ns) (srt.imp fun h e => Int.ne_of_lt h e) fun y hy => (mem y).mp hy
        simp at z
        omega
      -- marks
      refine ⟨_, rfl, _, rfl, _, rfl, _, rfl, Fc, p, v5, sounds, t9, rfl, gc.fh, hpc, (hv5.ex g6.ff).ex ec, snd, s0, by omega, by omega, sne, fun a kvs m t10 Fd Hd fa ha tl okm u7 u8 gd hpd => ⟨by show 3 ≤ sizeLine; omega, fun r hr' => ?_⟩⟩
      have ge := (gc.trans gd fun b hb => .inl hb).new (o := .tup [v6, .ref p4, .ref a]) hr'
      have xe := Ex.new (o := HO.tup [v6, .ref p4, .ref a]) (gd.fh.dm hr')
      refine q r a v6 (.ref p4) kvs sounds AA S m t10 _ _ upd_same (xe _ _ fa) (by rw [upd_ne (ne_of_none ha hr')]; exact ha) (((hv6.ex ec).ex gd.ff).ex xe) ((hS.ex gd.ff).ex xe) (tl.ex xe) ⟨so, Ann, Al, Aok, srt, fun z hz => ?_, fun e => ?_, Sl, okm⟩ (by omega) (by omega) ge (hpd.gr ((Gr.refl (B := []) gd.fh).new hr') (by simp))
      · rcases List.mem_cons.mp ((mem z).mp hz) with rfl | hz
        · exact ⟨Int.le_refl _, m0⟩
        · exact h2 z hz
      · have := (mem 0).mpr (by simp)
        rw [e] at this
        simp at this
end
end TW
set_option Elab.async false
set_option linter.all false
set_option maxRecDepth 100000
set_option maxHeartbeats 4000000
/-! the plain law: what is known, with places, sounds, marks renamed -/
namespace TW
open PySem PySem.Spec PyProof.Rows L2
theorem ReachP.mono {R R' : List (Int × Str × Int)} {S S' : Int → Prop} (hR : ∀ t, t ∈ R → t ∈ R') (hS : ∀ z, S z → S' z) {q : Int} (h : ReachP R S q) : ReachP R' S' q := by
  induction h with
  | base h => exact .base (hS _ h)
  | step _ e ih => exact .step ih (hR _ e)
theorem ReachP.same {R R' : List (Int × Str × Int)} {S S' : Int → Prop} (hR : ∀ t, t ∈ R ↔ t ∈ R') (hS : ∀ z, S z ↔ S' z) (q : Int) : ReachP R S q ↔ ReachP R' S' q :=
  ⟨.mono (fun t => (hR t).mp) fun z => (hS z).mp, .mono (fun t => (hR t).mpr) fun z => (hS z).mpr⟩
theorem Beh.same {R R' : List (Int × Str × Int)} {k : Str} {S S' : Int → Prop} (hR : ∀ t, t ∈ R ↔ t ∈ R') (hS : ∀ z, S z ↔ S' z) (q : Int) : Beh R k S q ↔ Beh R' k S' q :=
  ReachP.same hR (fun z => exists_congr fun p => and_congr (hS p) (hR _)) q
theorem Goes.same {R R' : List (Int × Str × Int)} (hR : ∀ t, t ∈ R ↔ t ∈ R') : ∀ {row : List Str} {S S' : Int → Prop}, (∀ z, S z ↔ S' z) → ∀ q, Goes R S row q ↔ Goes R' S' row q
  | [], _, _, hS, q => hS q
  | k :: row, S, S', hS, q => Goes.same hR (row := row) (S := Beh R k S) (S' := Beh R' k S') (fun z => Beh.same hR hS z) q
theorem ReachP.or {R : List (Int × Str × Int)} {S T : Int → Prop} (q : Int) : ReachP R (fun z => S z ∨ T z) q ↔ ReachP R S q ∨ ReachP R T q := by
  constructor
  · intro h
    induction h with
    | base h => exact h.imp .base .base
    | step _ e ih => exact ih.imp (.step · e) (.step · e)
  · exact fun h => h.elim (.mono (fun _ h => h) fun _ => .inl) (.mono (fun _ h => h) fun _ => .inr)
theorem Beh.or {R : List (Int × Str × Int)} {k : Str} {S T : Int → Prop} (q : Int) : Beh R k (fun z => S z ∨ T z) q ↔ Beh R k S q ∨ Beh R k T q := by
  unfold Beh
  rw [← ReachP.or]
  refine ReachP.congr (fun z => ?_) q
  constructor
  · rintro ⟨p, hp, e⟩
    exact hp.imp (fun h => ⟨p, h, e⟩) fun h => ⟨p, h, e⟩
  · rintro (⟨p, hp, e⟩ | ⟨p, hp, e⟩)
    · exact ⟨p, .inl hp, e⟩
    · exact ⟨p, .inr hp, e⟩
/-- all of R lies within P -/
def Within (R : List (Int × Str × Int)) (P : Int → Prop) : Prop := ∀ p k q, (p, k, q) ∈ R → P p ∧ P q
theorem ReachP.within {R : List (Int × Str × Int)} {S P : Int → Prop} (w : Within R P) (hS : ∀ z, S z → P z) {q : Int} (h : ReachP R S q) : P q := by
  cases h with
  | base h => exact hS _ h
  | step _ e => exact (w _ _ _ e).2
theorem Beh.within {R : List (Int × Str × Int)} {k : Str} {S P : Int → Prop} (w : Within R P) {q : Int} (h : Beh R k S q) : P q :=
  ReachP.within w (fun z ⟨p, _, e⟩ => (w _ _ _ e).2) h
theorem Goes.within {R : List (Int × Str × Int)} {P : Int → Prop} (w : Within R P) : ∀ {row : List Str} {S : Int → Prop}, (∀ z, S z → P z) → ∀ {q}, Goes R S row q → P q
  | [], _, hS, _, h => hS _ h
  | k :: row, S, hS, _, h => Goes.within w (row := row) (S := Beh R k S) (fun z h => Beh.within w h) h
/-- places and marks renamed -/
structure Ren (R R' : List (Int × Str × Int)) (P : Int → Prop) (M : Str → Prop) (φ : Int → Int) (ν : Str → Str) : Prop where
  w : Within R P
  mks : ∀ p k q, (p, k, q) ∈ R → M k
  inj : ∀ x y, P x → P y → φ x = φ y → x = y
  njn : ∀ x y, M x → M y → ν x = ν y → x = y
  e0 : ν "" = ""
  m0 : M ""
  im : ∀ t, t ∈ R' ↔ ∃ p k q, (p, k, q) ∈ R ∧ t = (φ p, ν k, φ q)
section
variable {R R' : List (Int × Str × Int)} {P : Int → Prop} {M : Str → Prop} {φ : Int → Int} {ν : Str → Str}
theorem Ren.reach (r : Ren R R' P M φ ν) {S S' : Int → Prop} (hS : ∀ z, S z → P z) (hS' : ∀ z, S' z ↔ ∃ x, S x ∧ z = φ x) (q' : Int) : ReachP R' S' q' ↔ ∃ q, ReachP R S q ∧ q' = φ q := by
  constructor
  · intro h
    induction h with
    | base h =>
      obtain ⟨x, h1, h2⟩ := (hS' _).mp h
      exact ⟨x, .base h1, h2⟩
    | step _ e ih =>
      obtain ⟨p, h1, h2⟩ := ih
      obtain ⟨a, k, b, h3, h4⟩ := (r.im _).mp e
      injection h4 with e1 e2
      injection e2 with e2 e3
      have pa : p = a := r.inj _ _ (ReachP.within r.w hS h1) (r.w _ _ _ h3).1 (h2.symm.trans e1)
      have ke : k = "" := r.njn _ _ (r.mks _ _ _ h3) r.m0 (by rw [r.e0]; exact e2.symm)
      subst pa
      subst ke
      exact ⟨b, .step h1 h3, e3⟩
  · rintro ⟨q, h, rfl⟩
    induction h with
    | base h => exact .base ((hS' _).mpr ⟨_, h, rfl⟩)
    | step _ e ih => exact .step ih ((r.im _).mpr ⟨_, _, _, e, by rw [r.e0]⟩)
theorem Ren.beh (r : Ren R R' P M φ ν) {k : Str} (hk : M k) {S S' : Int → Prop} (hS : ∀ z, S z → P z) (hS' : ∀ z, S' z ↔ ∃ x, S x ∧ z = φ x) (q' : Int) : Beh R' (ν k) S' q' ↔ ∃ q, Beh R k S q ∧ q' = φ q := by
  refine r.reach (fun z ⟨p, _, e⟩ => (r.w _ _ _ e).2) (fun z => ?_) q'
  constructor
  · rintro ⟨p, hp, e⟩
    obtain ⟨x, h1, rfl⟩ := (hS' _).mp hp
    obtain ⟨a, k', b, h3, h4⟩ := (r.im _).mp e
    injection h4 with e1 e2
    injection e2 with e2 e3
    have pa : x = a := r.inj _ _ (hS _ h1) (r.w _ _ _ h3).1 e1
    have ke : k = k' := r.njn _ _ hk (r.mks _ _ _ h3) e2
    subst pa
    subst ke
    exact ⟨b, ⟨x, h1, h3⟩, e3⟩
  · rintro ⟨x, ⟨p, hp, e⟩, rfl⟩
    exact ⟨φ p, (hS' _).mpr ⟨p, hp, rfl⟩, (r.im _).mpr ⟨_, _, _, e, rfl⟩⟩
theorem Ren.goes (r : Ren R R' P M φ ν) : ∀ {row : List Str} {S S' : Int → Prop}, (∀ k ∈ row, M k) → (∀ z, S z → P z) → (∀ z, S' z ↔ ∃ x, S x ∧ z = φ x) → ∀ q', Goes R' S' (row.map ν) q' ↔ ∃ q, Goes R S row q ∧ q' = φ q
  | [], _, _, _, _, hS', q' => hS' q'
  | k :: row, S, S', hk, hS, hS', q' => Ren.goes r (row := row) (S := Beh R k S) (S' := Beh R' (ν k) S') (fun k h => hk k (List.mem_cons_of_mem _ h)) (fun z h => Beh.within r.w h) (fun z => r.beh (hk k List.mem_cons_self) hS hS' z) q'
end
/-- the triples depend on what is told alone -/
theorem trip_same {m m' : Str → List Str} {A A' : List Arr} (hA : ∀ a, a ∈ A ↔ a ∈ A') (hm : ∀ a ∈ A, ∀ z, z ∈ m a.2.1 ↔ z ∈ m' a.2.1) (t : Int × Str × Int) : t ∈ trip m A ↔ t ∈ trip m' A' := by
  obtain ⟨p, k, q⟩ := t
  rw [mem_trip, mem_trip]
  exact ⟨fun ⟨z, h1, h2⟩ => ⟨z, (hA _).mp h1, (hm _ h1 _).mp h2⟩, fun ⟨z, h1, h2⟩ => ⟨z, (hA _).mpr h1, (hm _ ((hA _).mpr h1) _).mpr h2⟩⟩
theorem trip_within {m : Str → List Str} {A : List Arr} {P : Int → Prop} (h : ∀ a ∈ A, P a.1 ∧ P a.2.2) : Within (trip m A) P := fun p k q e => by
  obtain ⟨z, h1, _⟩ := mem_trip.mp e
  exact h _ h1
/-- the triples of a world renamed -/
theorem trip_ren {m m' : Str → List Str} {A : List Arr} {φ : Int → Int} {σ ν : Str → Str} (hm : ∀ a ∈ A, m' (σ a.2.1) = (m a.2.1).map ν) (t : Int × Str × Int) :
    t ∈ trip m' (A.map fun a => (φ a.1, σ a.2.1, φ a.2.2)) ↔ ∃ p k q, (p, k, q) ∈ trip m A ∧ t = (φ p, ν k, φ q) := by
  obtain ⟨p', k', q'⟩ := t
  rw [mem_trip]
  constructor
  · rintro ⟨z, h1, h2⟩
    obtain ⟨a, ha, e⟩ := List.mem_map.mp h1
    injection e with e1 e2
    injection e2 with e2 e3
    rw [← e2, hm a ha] at h2
    obtain ⟨k, hk, rfl⟩ := List.mem_map.mp h2
    exact ⟨a.1, k, a.2.2, mem_trip.mpr ⟨_, ha, hk⟩, by rw [e1, e3]⟩
  · rintro ⟨p, k, q, h, e⟩
    obtain ⟨z, h1, h2⟩ := mem_trip.mp h
    injection e with e1 e2
    injection e2 with e2 e3
    refine ⟨σ z, List.mem_map.mpr ⟨_, h1, by rw [e1, e3]⟩, ?_⟩
    rw [hm _ h1, e2]
    exact List.mem_map.mpr ⟨k, h2, rfl⟩
/-- two ascending lists of the same are one -/
theorem asc_same {l m : List Int} (h1 : l.Pairwise (· < ·)) (h2 : m.Pairwise (· < ·)) (h : ∀ k, k ∈ l ↔ k ∈ m) : l = m := by
  have n1 : l.Nodup := h1.imp fun h e => Int.ne_of_lt h e
  have n2 : m.Nodup := h2.imp fun h e => Int.ne_of_lt h e
  exact ((List.perm_ext_iff_of_nodup n1 n2).mpr h).eq_of_pairwise (fun a b _ _ h1 h2 => absurd h1 (by omega)) h1 h2
end TW
set_option Elab.async false
set_option linter.all false
set_option maxRecDepth 100000
set_option maxHeartbeats 8000000
/-! list(zip(a, b)) -/
namespace TW
open PySem PySem.Spec PyProof.Rows L2 PySem.W PySem.Calls
/-- a zip of two lists, i pairs told; its last tuple is still out (S: the list that is made) -/
structure ZSt (h : Heap) (z TI TO i1 i2 l1 l2 S : Addr) (xs ys : Array Value) (i : Nat) : Prop where
  ti : IsPair h TI (.ref i1) (.ref i2)
  a1 : h.IsListIter i1 l1 i
  a2 : h.IsListIter i2 l2 i
  b1 : h.IsList l1 xs
  b2 : h.IsList l2 ys
  o : (IsZip h z TI TO .none ∧ ∃ a b, IsPair h TO a b) ∨ ∃ T f oT, IsZipHeld h z TI TO T f ∧ h.get? T = some oT ∧ T ≠ z ∧ T ≠ i1 ∧ T ≠ i2 ∧ T ≠ S
structure ZOff (z TI TO i1 i2 l1 l2 S : Addr) : Prop where
  z : S ≠ z
  TI : S ≠ TI
  TO : S ≠ TO
  i1 : S ≠ i1
  i2 : S ≠ i2
  l1 : S ≠ l1
  l2 : S ≠ l2
section
variable {z TI TO i1 i2 l1 l2 S : Addr} {xs ys : Array Value} {i : Nat}
theorem ZSt.keep {h h' : Heap} (a : ZSt h z TI TO i1 i2 l1 l2 S xs ys i) (f : ZOff z TI TO i1 i2 l1 l2 S) (k : ∀ b o, b ≠ S → h.get? b = some o → h'.get? b = some o) : ZSt h' z TI TO i1 i2 l1 l2 S xs ys i where
  ti := k _ _ f.TI.symm a.ti
  a1 := a.a1.at fun o e => k _ o f.i1.symm e
  a2 := a.a2.at fun o e => k _ o f.i2.symm e
  b1 := a.b1.at fun o e => k _ o f.l1.symm e
  b2 := a.b2.at fun o e => k _ o f.l2.symm e
  o := a.o.imp (fun ⟨q, u, v, e⟩ => ⟨k _ _ f.z.symm q, u, v, k _ _ f.TO.symm e⟩) fun ⟨T, g, oT, q, e, n1, n2, n3, n4⟩ => ⟨T, g, oT, k _ _ f.z.symm q, k _ _ n4 e, n1, n2, n3, n4⟩
end
section
variable {prog : Program} {w : World} {A : Around} {E : Value → Shared → Prop} {s : Shared} {z TI TO i1 i2 l1 l2 S : Addr} {xs ys : Array Value} {i : Nat}
theorem zl_item {x y : Value} {Q : Option Value → Shared → Prop} (D : ZipApart z TI TO i1 i2 l1 l2) (st : ZSt s.heap z TI TO i1 i2 l1 l2 S xs ys i) (hS : S < s.heap.objs.size) (hx : xs[i]? = some x) (hy : ys[i]? = some y)
    (q : ∀ h', ZSt h' z TI TO i1 i2 l1 l2 S xs ys (i + 1) → IsPair h' s.heap.objs.size x y → h'.objs.size = s.heap.objs.size + 1 → (∀ c o, c ≠ z → c ≠ TO → c ≠ i1 → c ≠ i2 → s.heap.get? c = some o → h'.get? c = some o) → Q (some (.ref s.heap.objs.size)) { s with heap := h' }) :
    wpAny (model prog w) A (pyNext (.ref z)) Q E s := by
  obtain ⟨ti, a1, a2, b1, b2, o⟩ := st
  have n1 : s.heap.objs.size ≠ i1 := by obtain ⟨_, e, _⟩ := a1; exact Nat.ne_of_gt (Heap.lt_size e)
  have n2 : s.heap.objs.size ≠ i2 := by obtain ⟨_, e, _⟩ := a2; exact Nat.ne_of_gt (Heap.lt_size e)
  have nS : s.heap.objs.size ≠ S := Nat.ne_of_gt hS
  rcases o with ⟨hz, u, v, hTO⟩ | ⟨T, f, oT, hz, hT, t1, t2, t3, t4⟩
  · have nz : s.heap.objs.size ≠ z := Nat.ne_of_gt (Heap.lt_size hz)
    refine wpAny_pyNext_zip_item D hz ti hTO a1 a2 b1 b2 hx hy fun h' e1 e2 e3 e4 e5 e6 k => q h' ⟨k _ _ D.TIz D.TITO D.TIi1 D.TIi2 ti, e3, e4, b1.at fun o e => k _ o D.l1z D.l1TO D.l1i1 D.l1i2 e, b2.at fun o e => k _ o D.l2z D.l2TO D.l2i1 D.l2i2 e, .inr ⟨_, false, _, e1, e5, nz, n1, n2, nS⟩⟩ e5 e6 k
  · have nz : s.heap.objs.size ≠ z := Nat.ne_of_gt (Heap.lt_size hz)
    refine wpAny_pyNext_zip_item_held D hz hT ti a1 a2 b1 b2 hx hy fun h' e1 e3 e4 e5 e6 k => q h' ⟨k _ _ D.TIz D.TIi1 D.TIi2 ti, e3, e4, b1.at fun o e => k _ o D.l1z D.l1i1 D.l1i2 e, b2.at fun o e => k _ o D.l2z D.l2i1 D.l2i2 e, .inr ⟨T, true, oT, e1, k _ _ t1 t2 t3 hT, t1, t2, t3, t4⟩⟩ e5 e6 fun c o c1 _ c3 c4 => k c o c1 c3 c4
theorem zl_end {Q : Option Value → Shared → Prop} (hh : A.handled = none) (D : ZipApart z TI TO i1 i2 l1 l2) (st : ZSt s.heap z TI TO i1 i2 l1 l2 S xs ys i) (he : xs[i]? = none ∨ ys[i]? = none)
    (q : ∀ h', (∀ c o, c ≠ z → c ≠ TO → c ≠ i1 → c ≠ i2 → s.heap.get? c = some o → h'.get? c = some o) → Q none { s with heap := h' }) : wpAny (model prog w) A (pyNext (.ref z)) Q E s := by
  obtain ⟨ti, a1, a2, b1, b2, o⟩ := st
  rcases o with ⟨hz, u, v, hTO⟩ | ⟨T, f, oT, hz, hT, t1, t2, t3, t4⟩
  · exact wpAny_pyNext_zip_end hh D hz ti hTO a1 a2 b1 b2 he q
  · exact wpAny_pyNext_zip_end_held hh D hz hT ti a1 a2 b1 b2 he fun h' k => q h' fun c o c1 _ c3 c4 => k c o c1 c3 c4
/-- the pairs that were told -/
structure ZGot (xs ys : Array Value) (lo : Addr) (h : Heap) (as : List Addr) : Prop where
  up : as.Pairwise (· < ·)
  ab : ∀ a ∈ as, lo < a
  at' : ∀ (j : Nat) (a : Addr), as[j]? = some a → ∃ x y, xs[j]? = some x ∧ ys[j]? = some y ∧ IsPair h a x y
theorem ZGot.lt {lo : Addr} {h : Heap} {as : List Addr} (g : ZGot xs ys lo h as) {a : Addr} (ha : a ∈ as) : a < h.objs.size := by
  obtain ⟨j, hj⟩ := List.mem_iff_getElem?.mp ha
  obtain ⟨_, _, _, _, e⟩ := g.at' j a hj
  exact Heap.lt_size e
/-- all but what a zip and its list change -/
def zKept (h h' : Heap) (z TO i1 i2 S : Addr) : Prop := ∀ b o, b ≠ S → b ≠ z → b ≠ TO → b ≠ i1 → b ≠ i2 → h.get? b = some o → h'.get? b = some o
theorem zl_loop {R : Result → Shared → Prop} (hh : A.handled = none) (D : ZipApart z TI TO i1 i2 l1 l2) (f : ZOff z TI TO i1 i2 l1 l2 S) (lt : z < S ∧ TO < S ∧ i1 < S ∧ i2 < S) {n : Nat} (en : n = min xs.size ys.size) (hn : n ≤ sizeLine) (res : Value) {h₀ : Heap}
    (q : ∀ h' tk acc c as, zKept h₀ h' z TO i1 i2 S → h'.get? S = some { cls := .type "list", dict := none, data := .seq acc c, slots := #[] } → as.length = n → ZGot xs ys S h' as → acc.toList = as.map Value.ref → R (.ok (.ret res)) { s with heap := h', toks := tk }) :
    ∀ (m i : Nat) (h : Heap) (tk c : Nat) (acc : Array Value) (as : List Addr), n - i = m → i ≤ n → ZSt h z TI TO i1 i2 l1 l2 S xs ys i → zKept h₀ h z TO i1 i2 S → h.get? S = some { cls := .type "list", dict := none, data := .seq acc c, slots := #[] } →
      acc.toList = as.map Value.ref → as.length = i → ZGot xs ys S h as → codeAny (model prog w) A (.builtin "list.extend.loop" ⟨[.ref S, .ref z, res], []⟩) R { s with heap := h, toks := tk } := by
  intro m
  induction m with
  | zero =>
    intro i h tk c acc as hm hi st kp hS hacc hal hG
    refine codeAny_builtin PySem.F.entry_extend_loop ?_
    rw [Around.under_plainId PySem.F.plain_extend_loop _]
    show wpAny _ A.in1 (pyNext (.ref z) >>= _) _ _ _
    refine wpAny_bind (zl_end (s := { s with heap := h, toks := tk }) (A := A.in1) hh D st ?_ fun h' k => ?_)
    · rcases Nat.le_total xs.size ys.size with e | e
      · exact .inl (Array.getElem?_eq_none (by omega))
      · exact .inr (Array.getElem?_eq_none (by omega))
    · refine wpAny_pure (q h' tk acc c as (fun b o b0 b1 b2 b3 b4 e => k b o b1 b2 b3 b4 (kp b o b0 b1 b2 b3 b4 e)) (k S _ f.z f.TO f.i1 f.i2 hS) (by omega) ⟨hG.up, hG.ab, fun j a hj => ?_⟩ hacc)
      obtain ⟨x, y, e1, e2, e3⟩ := hG.at' j a hj
      have ga := hG.ab a (List.mem_of_getElem? hj)
      exact ⟨x, y, e1, e2, k a _ (Nat.ne_of_gt (Nat.lt_trans lt.1 ga)) (Nat.ne_of_gt (Nat.lt_trans lt.2.1 ga)) (Nat.ne_of_gt (Nat.lt_trans lt.2.2.1 ga)) (Nat.ne_of_gt (Nat.lt_trans lt.2.2.2 ga)) e3⟩
  | succ m ih =>
    intro i h tk c acc as hm hi st kp hS hacc hal hG
    have hx : xs[i]? = some (xs[i]'(by omega)) := Array.getElem?_eq_getElem (by omega)
    have hy : ys[i]? = some (ys[i]'(by omega)) := Array.getElem?_eq_getElem (by omega)
    have hsz : acc.size = i := by rw [← Array.length_toList, hacc, List.length_map, hal]
    have hSl : S < h.objs.size := Heap.lt_size hS
    refine codeAny_builtin PySem.F.entry_extend_loop ?_
    rw [Around.under_plainId PySem.F.plain_extend_loop _]
    show wpAny _ A.in1 (pyNext (.ref z) >>= _) _ _ _
    refine wpAny_bind (zl_item (s := { s with heap := h, toks := tk }) D st hSl hx hy fun h' st' hp hz k => ?_)
    dsimp only at hp hz k ⊢
    have hS' := k S _ f.z f.TO f.i1 f.i2 hS
    have up : ∀ b o, b ≠ S → h'.get? b = some o → (h'.update S (Obj.mapSeq (·.push (Value.ref h.objs.size)))).get? b = some o := fun b o hb e => (Heap.get?_update_other _ _ (Ne.symm hb)).trans e
    have far : ∀ a, S < a → a ≠ z ∧ a ≠ TO ∧ a ≠ i1 ∧ a ≠ i2 := fun a ga => ⟨Nat.ne_of_gt (Nat.lt_trans lt.1 ga), Nat.ne_of_gt (Nat.lt_trans lt.2.1 ga), Nat.ne_of_gt (Nat.lt_trans lt.2.2.1 ga), Nat.ne_of_gt (Nat.lt_trans lt.2.2.2 ga)⟩
    show wpAny _ A.in1 (updateSeq S (·.push (Value.ref h.objs.size)) >>= _) _ _ _
    refine wpAny_bind ?_
    refine wpAny_updateSeq hS' rfl (wpAny_pure ⟨plainId_quiet PySem.F.plain_extend_loop _, ih (i + 1) _ tk _ (acc.push (Value.ref h.objs.size)) (as ++ [h.objs.size]) (by omega) (by omega) (st'.keep f up)
      (fun b o b0 b1 b2 b3 b4 e => up b o b0 (k b o b1 b2 b3 b4 (kp b o b0 b1 b2 b3 b4 e))) (Heap.get?_update_self _ hS' rfl) (by rw [Array.toList_push, hacc, List.map_append]; rfl) (by rw [List.length_append, hal]; rfl) ⟨?_, ?_, ?_⟩⟩) (by rw [hsz]; omega) (by show (acc.push (Value.ref h.objs.size)).size ≤ sizeLine + 1; rw [Array.size_push, hsz]; omega)
    · refine List.pairwise_append.mpr ⟨hG.up, List.pairwise_singleton _ _, fun a ha b hb => ?_⟩
      rw [List.mem_singleton.mp hb]
      exact hG.lt ha
    · intro a ha
      rcases List.mem_append.mp ha with ha | ha
      · exact hG.ab a ha
      · rw [List.mem_singleton.mp ha]; exact hSl
    · intro j b hj
      by_cases h1 : j < as.length
      · rw [List.getElem?_append_left h1] at hj
        obtain ⟨x', y', e1, e2, e3⟩ := hG.at' j b hj
        have gb := hG.ab b (List.mem_of_getElem? hj)
        obtain ⟨f1, f2, f3, f4⟩ := far b gb
        exact ⟨x', y', e1, e2, up b _ (Nat.ne_of_gt gb) (k b _ f1 f2 f3 f4 e3)⟩
      · have h2 : j = as.length := by
          have := (List.getElem?_eq_some_iff.mp hj).1
          rw [List.length_append, List.length_singleton] at this
          omega
        subst h2
        have hb : h.objs.size = b := by simpa using hj
        subst hb
        exact ⟨_, _, by rw [hal]; exact hx, by rw [hal]; exact hy, up _ _ (Nat.ne_of_gt hSl) hp⟩
theorem zip_no_len : typeLookup (.type "zip") "__len__" = pure none := by rw [typeLookup_type, builtinLookup_eq_fast]; kernel_rfl
theorem zip_no_hint : typeLookup (.type "zip") "__length_hint__" = pure none := by rw [typeLookup_type, builtinLookup_eq_fast]; kernel_rfl
theorem zl_call {Q : Value → Shared → Prop} (hh : A.handled = none) (D : ZipApart z TI TO i1 i2 l1 l2) (st : ∀ S, ZSt s.heap z TI TO i1 i2 l1 l2 S xs ys 0) (hz0 : IsZip s.heap z TI TO .none) (hTO : ∃ a b, IsPair s.heap TO a b) (hn : min xs.size ys.size ≤ sizeLine)
    (q : ∀ h' tk acc c as, zKept s.heap h' z TO i1 i2 s.heap.objs.size → h'.get? s.heap.objs.size = some { cls := .type "list", dict := none, data := .seq acc c, slots := #[] } → as.length = min xs.size ys.size → ZGot xs ys s.heap.objs.size h' as → acc.toList = as.map Value.ref →
      Q (.ref s.heap.objs.size) { s with heap := h', toks := tk }) : wpAny (model prog w) A (call (.type "list") [.ref z]) Q E s := by
  obtain ⟨ti, a1, a2, b1, b2, _⟩ := st 0
  obtain ⟨ua, ub, hTO⟩ := hTO
  have lz : z < s.heap.objs.size := Heap.lt_size hz0
  have lTI : TI < s.heap.objs.size := Heap.lt_size ti
  have lTO : TO < s.heap.objs.size := Heap.lt_size hTO
  have li1 : i1 < s.heap.objs.size := by obtain ⟨_, e, _⟩ := a1; exact Heap.lt_size e
  have li2 : i2 < s.heap.objs.size := by obtain ⟨_, e, _⟩ := a2; exact Heap.lt_size e
  have ll1 : l1 < s.heap.objs.size := by obtain ⟨_, e, _⟩ := b1; exact Heap.lt_size e
  have ll2 : l2 < s.heap.objs.size := by obtain ⟨_, e, _⟩ := b2; exact Heap.lt_size e
  have off : ZOff z TI TO i1 i2 l1 l2 s.heap.objs.size := ⟨Nat.ne_of_gt lz, Nat.ne_of_gt lTI, Nat.ne_of_gt lTO, Nat.ne_of_gt li1, Nat.ne_of_gt li2, Nat.ne_of_gt ll1, Nat.ne_of_gt ll2⟩
  refine callType_codes (Q₁ := fun obj s₁ => obj = .ref s.heap.objs.size ∧ s₁ = { s with heap := s.heap.push { cls := .type "list", data := .seq #[] } }) PySem.F.called_list (PySem.F.typeCall_list_1 _) PySem.F.entry_list_init
    (code_list_new _ ⟨rfl, rfl⟩) fun obj s₁ h₁ => ?_
  obtain ⟨rfl, rfl⟩ := h₁
  have hS : (s.heap.push { cls := .type "list", data := .seq #[] }).get? s.heap.objs.size = some { cls := .type "list", data := .seq #[] } := Heap.get?_push_size _ rfl
  refine ⟨⟨_, hS, rfl⟩, PySem.F.args_list_init_2 _ _, ?_⟩
  show wpAny _ A.in1.in1 (do let old ← Builtin.List.listItems (.ref s.heap.objs.size); Builtin.List.listUpdate (.ref s.heap.objs.size) (fun _ => #[]); letGo old.toList.reverse; Builtin.List.listExtendWith (.ref s.heap.objs.size) (.ref z) .none) _ _ _
  refine wpAny_bind ?_
  unfold Builtin.List.listItems
  refine wpAny_bind (wpAny_seqItems hS rfl (wpAny_pure ?_))
  show wpAny _ A.in1.in1 (updateSeq s.heap.objs.size (fun _ => #[]) >>= fun _ => letGo (#[] : Array Value).toList.reverse >>= fun _ => Builtin.List.listExtendWith (.ref s.heap.objs.size) (.ref z) .none) _ _ _
  refine wpAny_bind (wpAny_updateSeq hS rfl ?_)
  have hS2 := Heap.get?_update_self (Obj.mapSeq (fun _ => (#[] : Array Value))) hS rfl
  refine wpAny_bind (wpAny_letGo ?_)
  have oth : ∀ (h : Heap) (g : Obj → Obj), (∀ b o, b ≠ s.heap.objs.size → s.heap.get? b = some o → h.get? b = some o) → ∀ b o, b ≠ s.heap.objs.size → s.heap.get? b = some o → (h.update s.heap.objs.size g).get? b = some o := fun h g k b o nb e =>
    (Heap.get?_update_other _ _ (Ne.symm nb)).trans (k b o nb e)
  have k1 : ∀ b o, b ≠ s.heap.objs.size → s.heap.get? b = some o → (s.heap.push { cls := .type "list", data := .seq #[] }).get? b = some o := fun b o _ e => Heap.get?_push_of_some _ e
  have k2 := oth _ (Obj.mapSeq (fun _ => (#[] : Array Value))) k1
  unfold Builtin.List.listExtendWith
  have hT : Shared.TypeIs { s with heap := (s.heap.push { cls := .type "list", data := .seq #[] }).update s.heap.objs.size (Obj.mapSeq (fun _ => (#[] : Array Value))) } (.ref z) "zip" := ⟨_, k2 z _ (Nat.ne_of_lt lz) hz0, rfl⟩
  refine wpAny_bind (wpAny_typeOf hT ?_)
  have h1 : Builtin.List.listSameRef (.ref s.heap.objs.size) (.ref z) = false := by simp [Builtin.List.listSameRef, Nat.ne_of_gt lz]
  have h2 : (Value.type "zip" == Value.type "list") = false := by decide
  have h3 : (Value.type "zip" == Value.type "tuple") = false := by decide
  simp only [h1, h2, h3, Bool.or_false, Bool.false_eq_true, if_false]
  refine wpAny_bind (wpAny_pyIter_zip (k2 z _ (Nat.ne_of_lt lz) hz0) ?_)
  refine wpAny_bind (wpAny_holding ?_)
  unfold Builtin.List.listLengthHint
  refine wpAny_bind (wpAny_specialOf hT zip_no_len ?_)
  show wpAny _ A.in1.in1 (specialOf (Value.ref z) (Str.ofString "__length_hint__") >>= _) _ _ _
  refine wpAny_bind (wpAny_specialOf hT zip_no_hint ?_)
  refine wpAny_pure ?_
  show wpAny _ A.in1.in1 (rule "list.extend.makes-room" >>= fun _ => Builtin.List.listTouch (.ref s.heap.objs.size) >>= fun _ =>
    again (.builtin "list.extend.loop" ⟨[.ref s.heap.objs.size, .ref z, .none], []⟩)) _ _ _
  refine wpAny_bind (wpAny_rule ?_)
  refine wpAny_bind ?_
  show wpAny _ A.in1.in1 (updateSeq s.heap.objs.size (·.push .none) >>= fun _ => updateSeq s.heap.objs.size (·.pop)) _ _ _
  refine wpAny_bind (wpAny_updateSeq hS2 rfl ?_)
  have hS3 := Heap.get?_update_self (Obj.mapSeq (·.push Value.none)) hS2 rfl
  refine wpAny_updateSeq (hz := by seq_fits) hS3 rfl ?_
  have hS4 := Heap.get?_update_self (Obj.mapSeq (·.pop)) hS3 rfl
  have k4 := oth _ (Obj.mapSeq (·.pop)) (oth _ (Obj.mapSeq (·.push Value.none)) k2)
  refine wpAny_pure ⟨plainId_quiet PySem.F.plain_extend_loop _, ?_⟩
  refine zl_loop (A := A.in1) (s := s) (h₀ := s.heap) hh D off ⟨lz, lTO, li1, li2⟩ rfl hn .none (fun h' tk acc c as kk hS' hl hG hacc => ?_) _ 0 _ _ _ #[] [] rfl (Nat.zero_le _) ((st _).keep off k4) (fun b o b0 _ _ _ _ e => k4 b o b0 e) hS4 rfl rfl ⟨List.Pairwise.nil, (fun _ ha => nomatch ha), (fun j a hj => by simp at hj)⟩
  exact ⟨rfl, q h' tk acc c as kk hS' hl hG hacc⟩
end
end TW
set_option Elab.async false
set_option linter.all false
set_option maxRecDepth 100000
set_option maxHeartbeats 8000000
/-! list(zip(a, b)) as an expression; calls by keywords alone -/
namespace TW
open PySem PySem.Spec PyProof.Rows L2 PySem.W PySem.Calls
open Evl (Ex)
/-- list(zip(a, b)), the first list's items keys -/
structure rLZ (K : PySem.W.Frag) (vs : List V) (H1 : Hp) (Q : VK) : Prop where
  r : ∃ (a b : Addr) (ks : List Key) (ys : List V), vs = [.ref a, .ref b] ∧ SqL K H1 a (ks.map kV) ∧ SqL K H1 b ys ∧
    ∀ (H' : Hp) (S : Addr) (as : List Addr), Ex H1 H' → H1 S = none → (∀ t ∈ as, H1 t = none) → S ∉ as → H' S = some (.lst (as.map V.ref)) → Paired (fun (t : Addr) (q : Key × V) => H' t = some (.tup [kV q.1, q.2])) as (ks.zip ys) → Q (.ref S) H'
def tLZ (K : PySem.W.Frag) (ta : TA) : TE := fun σ H Q => ta σ H fun vs H1 => rLZ K vs H1 Q
section
variable {X : Cx} {pins : List (Addr × Obj)} {σ : L2.St} {H : Hp} {s : Shared}
theorem zl_laid {h' : Heap} {tk : Nat} {kvs : List (Key × V)} {acc : Array Value} {c : Nat} {as : List Addr} {S : Addr} (I : Inv X pins σ H s) (hz : kvs.length ≤ sizeLine) (kp : ∀ b o, s.heap.get? b = some o → h'.get? b = some o) (ge : s.heap.objs.size ≤ S)
    (hS : h'.get? S = some { cls := .type "list", dict := none, data := .seq acc c, slots := #[] }) (up : as.Pairwise (· < ·)) (ab : ∀ a ∈ as, S < a) (hacc : acc.toList = as.map Value.ref) (hl : as.length = kvs.length)
    (hp : ∀ (j : Nat) (a : Addr), as[j]? = some a → ∃ (q : Key × V) (x y : Value), kvs[j]? = some q ∧ RelV (kV q.1) x ∧ RelV q.2 y ∧ IsPair h' a x y) :
    ∃ H' : Hp, Ex H H' ∧ H S = none ∧ (∀ t ∈ as, H t = none) ∧ S ∉ as ∧ H' S = some (.lst (as.map V.ref)) ∧ Paired (fun (t : Addr) (q : Key × V) => H' t = some (.tup [kV q.1, q.2])) as kvs ∧ Inv X pins σ H' { s with heap := h', toks := tk } := by
  have nS : S ∉ as := fun z => Nat.lt_irrefl _ (ab S z)
  have nd : as.Nodup := up.imp fun h => Nat.ne_of_lt h
  have fr : ∀ t ∈ as, H t = none := fun t ht => I.hok.fresh (Nat.le_trans ge (Nat.le_of_lt (ab t ht)))
  have frS : H S = none := I.hok.fresh ge
  have atP := LiI.putT_at as kvs (upd H S (.lst (as.map V.ref))) hl nd
  have old : ∀ b, b ∉ as → b ≠ S → LiI.putT (upd H S (.lst (as.map V.ref))) as kvs b = H b := fun b h1 h2 => by rw [LiI.putT_off as kvs _ h1, upd_ne h2]
  have ex : Ex H (LiI.putT (upd H S (.lst (as.map V.ref))) as kvs) := fun b u e => by
    rw [old b (fun z => by rw [fr b z] at e; cases e) (fun z => by rw [z, frS] at e; cases e)]
    exact e
  have eS : LiI.putT (upd H S (.lst (as.map V.ref))) as kvs S = some (.lst (as.map V.ref)) := by rw [LiI.putT_off as kvs _ nS, upd_same]
  refine ⟨LiI.putT (upd H S (.lst (as.map V.ref))) as kvs, ex, frS, fr, nS, eS, atP, ?_⟩
  refine I.call' (ch := []) rfl ⟨fun b o q _ _ _ => kp b o q, fun b o q _ _ _ => ⟨o.slots, kp b o q⟩, fun b o q n _ => ?_, fun b o q _ => ⟨o, kp b o q⟩, fun b xs q => ex b _ q, fun b o u q => ex b _ q, fun b ps q => ⟨#[], by rw [ex b _ q]; simp⟩⟩ (fun b u q => ?_) I.bare fun b z => by simp at z
  · have lb := Heap.lt_size q
    rw [old b (fun z => absurd lb (Nat.not_lt.mpr (Nat.le_trans ge (Nat.le_of_lt (ab b z))))) (fun z => absurd lb (Nat.not_lt.mpr (z ▸ ge)))]
    exact n
  · by_cases hb : b ∈ as
    · obtain ⟨j, pk, e1, e2, e3⟩ := LiI.paired_ix atP hb
      rw [e3] at q
      cases q
      obtain ⟨p', x, y, f1, f2, f3, f4⟩ := hp j b e1
      rw [e2] at f1
      cases f1
      exact ⟨by show 2 ≤ sizeLine; decide, [x, y], .cons f2 (.cons f3 .nil), ⟨_, f4, rfl, _, rfl⟩⟩
    · by_cases hb2 : b = S
      · subst hb2
        rw [eS] at q
        cases q
        refine ⟨by rw [List.length_map]; omega, acc.toList, c, by rw [hacc]; exact LiI.vals_refs as, ?_⟩
        rw [Array.toArray_toList]
        exact hS
      · rw [old b hb hb2] at q
        exact (I.hok b u q).stay (fun d v _ y => kp d _ y) (fun d y => ex d _ y) fun d xs y => ex d _ y
theorem pe_listZip {a b : Expr} {ta : TA} {p p2 pos pos2 : Pos} (K : PySem.W.Frag) (ha : PA X [a, b] ta) (hml : X.mg "list" = none) (hmz : X.mg "zip" = none) (hc : X.calm = true := by rfl) (hK : X.K = K := by rfl) (hg : Gl X "list" := by rfl) (hg2 : Gl X "zip" := by rfl)
    (hs : starEach [.Call (.Name "zip" p2) [a, b] [] pos2] X.env = (false, eval (.Call (.Name "zip" p2) [a, b] [] pos2) X.env) :: starEach [] X.env := by rfl) (hs2 : starEach [a, b] X.env = (false, eval a X.env) :: starEach [b] X.env := by rfl) (hpl : (backTo pos2 (starEach [b] X.env)).any (·.1) = false := by rfl) :
    PE X (.Call (.Name "list" p) [.Call (.Name "zip" p2) [a, b] [] pos2] [] pos) (tLZ K ta) := by
  subst hK
  refine ⟨fun pins s σ H Q I h => ?_⟩
  refine wpAny_Call_Name_kw (ld_blt I hg hml bt_list ?_)
  refine PyProof.Rows.callWith_type1 ?_ hs rfl
  rw [hs]
  show wpAny _ _ (spliced ((false, eval (.Call (.Name "zip" p2) [a, b] [] pos2) X.env) :: backTo pos (starEach [] X.env))) _ _ s
  refine Calls.spliced_cons ?_
  refine Call_ (ld_blt I hg2 hmz PyProof.Rows.boot_zip (PyProof.Rows.callWith_type1 (thn (ha.run pos2 pins s σ H _ I h) fun us s1 ⟨vs, H1, I1, r1, q1⟩ => ?_) hs2 hpl))
  obtain ⟨la, lb, ks, ys, ex, qa, qb, q3⟩ := q1.r
  subst ex
  obtain ⟨u1, u2, rfl, r3, r4⟩ := vals2 r1
  cases r3
  cases r4
  obtain ⟨its, rv, p1, z1⟩ := I1.list qa
  obtain ⟨its2, rv2, p2', z2⟩ := I1.list qb
  refine call_zip_2 p1.isList p2'.isList fun hz h1 h2 h3 h4 h5 hsz hk => ?_
  refine Calls.spliced_nil ?_
  have D := PySem.W.ktu_apart s1.heap.objs.size la lb p1.lt p2'.lt
  have l1 : hz.IsList la its.toArray := p1.isList.at fun o e => hk _ o e
  have l2 : hz.IsList lb its2.toArray := p2'.isList.at fun o e => hk _ o e
  refine zl_call (s := { s1 with heap := hz }) (z := s1.heap.objs.size + 4) (I1.ok.hd hc) D (fun S => ⟨h2, h4, h5, l1, l2, .inl ⟨h1, _, _, h3⟩⟩) h1 ⟨_, _, h3⟩ (by have := rv.length; simp only [List.size_toArray]; omega) fun h' tk acc c as kk hS hl hG hacc => ?_
  have hsz' : Shared.heap { s1 with heap := hz } = hz := rfl
  simp only [hsz'] at kk hS hG ⊢
  rw [hsz] at kk hS hG ⊢
  have kp : ∀ b o, s1.heap.get? b = some o → h'.get? b = some o := fun b o e => by
    have lb := Heap.lt_size e
    exact kk b o (Nat.ne_of_lt (Nat.lt_add_right 5 lb)) (Nat.ne_of_lt (Nat.lt_add_right 4 lb)) (Nat.ne_of_lt (Nat.lt_add_right 3 lb)) (Nat.ne_of_lt lb) (Nat.ne_of_lt (Nat.lt_add_right 1 lb)) (hk b o e)
  have e1 := rv.length
  have e2 := rv2.length
  rw [List.length_map] at e1
  have hlen : as.length = (ks.zip ys).length := by rw [hl, List.length_zip, List.size_toArray, List.size_toArray, e1, e2]
  obtain ⟨H', x1, x2, x3, x4, x5, x6, J⟩ := zl_laid (S := s1.heap.objs.size + 5) (tk := tk) (kvs := ks.zip ys) (as := as) I1 (by rw [List.length_zip]; omega) kp (by omega) hS hG.up hG.ab hacc hlen fun j a' hj => by
    obtain ⟨x, y, f1, f2, f3⟩ := hG.at' j a' hj
    have f1 : its[j]? = some x := by simpa using f1
    have f2 : its2[j]? = some y := by simpa using f2
    have jl : j < ks.length := by rw [e1]; exact (List.getElem?_eq_some_iff.mp f1).1
    have jl2 : j < ys.length := by rw [e2]; exact (List.getElem?_eq_some_iff.mp f2).1
    obtain ⟨u1, w1, w2⟩ := rv.get (i := j) (x := kV ks[j]) (by rw [List.getElem?_map, List.getElem?_eq_getElem jl]; rfl)
    obtain ⟨u2, w3, w4⟩ := rv2.get (i := j) (List.getElem?_eq_getElem jl2)
    rw [f1] at w1
    rw [f2] at w3
    cases w1
    cases w3
    exact ⟨(ks[j], ys[j]), x, y, List.getElem?_zip_eq_some.mpr ⟨List.getElem?_eq_getElem jl, List.getElem?_eq_getElem jl2⟩, w2, w4, f3⟩
  exact ⟨.ref _, H', J, rfl, q3 H' _ as x1 x2 x3 x4 x5 x6⟩
end
/-- several new finished objects -/
theorem Gr.more {B : List Addr} {F H F1 H1 H' : Hp} (g : Gr B F H F1 H1) (e : Ex H1 H') (N : List Addr) (hn : ∀ a ∈ N, H1 a = none) : Gr B F H (fun a => if a ∈ N then H' a else F1 a) H' := g.trans (B' := []) {
  ff := fun a o h => by
    have z : a ∉ N := fun m => by rw [g.fh.dm (hn a m)] at h; cases h
    show (if a ∈ N then H' a else F1 a) = some o
    rw [if_neg z]; exact h
  hh := fun a o _ h => e a o h
  fh := fun a o h => by
    have h : (if a ∈ N then H' a else F1 a) = some o := h
    by_cases m : a ∈ N
    · rw [if_pos m] at h; exact .inl h
    · rw [if_neg m] at h
      rcases g.fh a o h with z | ⟨ob, kvs, z1, z2⟩
      · exact .inl (e a o z)
      · exact .inr ⟨ob, kvs, z1, e _ _ z2⟩
  nw := fun a o h => by
    have h : (if a ∈ N then H' a else F1 a) = some o := h
    by_cases m : a ∈ N
    · exact .inr (hn a m)
    · rw [if_neg m] at h; exact .inl h
  dm := fun a h => by
    cases z : H1 a with
    | none => rfl
    | some o => rw [e a o z] at h; cases h }
/-! ### calls by keywords alone -/
theorem Vals.rev : ∀ {xs : List V} {us : List Value}, Vals xs us → Vals xs.reverse us.reverse
  | _, _, .nil => .nil
  | _, _, .cons r t => by
    rw [List.reverse_cons, List.reverse_cons]
    exact (Vals.rev t).append (.cons r .nil)
/-- the keywords stand in the parameters' order, from the last to the first -/
def back {α : Type} (us ws : List α) : List α := match us with
  | [] => ws.reverse
  | _ :: _ => []
/-- the def named x, called by the keywords ks alone -/
structure CalB (P : Program) (w : World) (K : PySem.W.Frag) (mg : Str → Option Value) (base : Heap) (x : Str) (k : Nat) (ps ks : List Str) (sp : Sp) : Prop where
  ex : ∃ (f : Addr) (fd : FuncData), mg x = some (.ref f) ∧ PySem.W.keepIn K (.ref f) = true ∧ KBinds K fd ps ks back back ∧ FnOk P w K mg base CX0 k f fd ps sp
theorem Fun.back {K : PySem.W.Frag} {x qual : Str} {st : Stmt} {f : Addr} {fd : FuncData} {ps ks : List Str} (F : Fun K x qual st f fd)
    (h : ∀ (kV doc pm : Value) (an : Option Addr) (cdv ct : Value) (ws : List Value), ws.length = ps.length → bindArgs (PySem.W.fnOf x qual (defArgs st) (defBody st) (defScope st) .none kV doc pm an cdv ct) ⟨[], ks.zip ws⟩ = pure (ps.zip ws.reverse)) (hps : ps ≠ []) : KBinds K fd ps ks TW.back TW.back := by
  obtain ⟨oc, od, kV, doc, pm, an, cdv, ct, osl, rfl, lk, hcd⟩ := F.ex
  refine ⟨fun s us ws _ hl => ?_, fun {vs us zs ws} r1 r2 => ?_⟩
  · cases us with
    | nil => exact .of_eq (h kV doc pm an cdv ct ws (by rw [← hl]; exact (List.length_reverse).symm))
    | cons a b => exact absurd (List.length_eq_zero_iff.mp hl.symm) hps
  · cases r1 with
    | nil => exact Vals.rev r2
    | cons _ _ => exact .nil
theorem pe_calB {X : Cx} {x : Str} {p pos : Pos} {kws : List Keyword} {tk : TA} {k : Nat} {ps ks : List Str} {sp : Sp} (c : CalB X.prog X.w X.K X.mg X.base x k ps ks sp) (hr : Room k X.A) (hkw : PK X kws tk) (hg : Gl X x := by rfl)
    (hall : (backToKw pos (keywordEach kws X.env)).all (·.1.isSome) = true := by rfl) (hks : (backToKw pos (keywordEach kws X.env)).filterMap (·.1) = ks := by rfl)
    (hdb : (x == ("__debug__" : Str)) = false := by decide) (hpl : ((backTo pos (starEach [] X.env)).any (·.1) || (backToKw pos (keywordEach kws X.env)).any (·.1.isNone)) = false := by rfl) :
    PE X (.Call (.Name x p) [] kws pos) (tCallK sp TW.back E0 tNil tk) := by
  obtain ⟨f, fd, hm, hk, hb, F⟩ := c.ex
  refine ⟨fun pins s σ H Q I h => ?_⟩
  refine wpAny_Call_Name_kw (ld_glob I hg hm ?_ hdb)
  refine PySem.W.callWith_KW0 (h₀ := X.base) I.ok.mod.kin hk hall (thn (hkw.run pos pins s σ H _ I h) fun ws s2 ⟨zs, H2, I2, rz, q2⟩ => ⟨I2.kIn, ?_⟩) hpl
  rw [hks]
  exact run_fnk F hr hb pass0 I2 .nil rz q2
end TW
set_option Elab.async false
set_option linter.all false
set_option maxRecDepth 100000
set_option maxHeartbeats 8000000
/-! one drawn world: what is known of it while the law looks at it -/
namespace TW
open PySem PySem.Spec PyProof.Rows L2 RZ StX
open Evl (Ex)
structure OneD where
  sounds : List Str
  A : List Arr
  S : List Int
  m : Str → List Str
  va : V
  vst : V
  a : Addr
  kvs : List (Key × V)
  sx : Addr
  wx : Addr
  s : SpD
  wd : WaD
  pl : V
  ev : V
  ps : List Int
  es : List Str
/-- what does not lie on the heap -/
structure OneOk (d : OneD) : Prop where
  ok : PlainOk 7 11 d.sounds d.A d.S d.m
  so : d.s.Ok
  wo : d.wd.Ok
  sA : d.s.A.Perm d.A
  sS : d.s.S = d.S
  wk : d.wd.ks.Perm d.sounds
  wm : ∀ k ∈ d.sounds, (d.wd.m k).Perm (d.m k)
  pp : d.ps.Pairwise (· < ·)
  pm : ∀ z, z ∈ d.ps ↔ z ∈ d.S ∨ (∃ b ∈ d.A, b.1 = z) ∨ ∃ b ∈ d.A, b.2.2 = z
  en : d.es.Nodup
  em : ∀ z, z ∈ d.es ↔ z ≠ "" ∧ ∃ k ∈ d.sounds, z ∈ d.m k
structure OneAt (K : PySem.W.Frag) (CS CW : Addr) (F H : Hp) (p : Addr) (t : Int) (d : OneD) : Prop where
  fh : Sees F H
  pe : PenAt K F H p t
  hA : Dp K F d.va (.list (d.A.map encA))
  hS : Dp K F d.vst (.list (d.S.map .int))
  fa : F d.a = some (.dK d.kvs)
  ha : H d.a = some (.dK d.kvs)
  tl : Tells K F d.kvs d.sounds d.m .list
  sp : SpAt K CS F d.sx d.s
  wa : WaAt K CW F d.wx d.wd
  hP : Dp K F d.pl (.list (d.ps.map .int))
  hE : Dp K F d.ev (.list (d.es.map .str))
section
variable {K : PySem.W.Frag} {CS CW : Addr} {F H F' H' : Hp} {p : Addr} {t t' : Int} {d : OneD}
theorem OneAt.grp (h : OneAt K CS CW F H p t d) (g : Gr [p] F H F' H') (pe : PenAt K F' H' p t') : OneAt K CS CW F' H' p t' d where
  fh := g.fh
  pe := pe
  hA := h.hA.ex g.ff
  hS := h.hS.ex g.ff
  fa := g.ff _ _ h.fa
  ha := g.hh _ _ (fun z => by
    have e := List.mem_singleton.mp z
    have f := h.pe.f
    rw [← e, h.fa] at f
    cases f) h.ha
  tl := h.tl.ex g.ff
  sp := h.sp.ex' g.ff
  wa := h.wa.ex' g.ff
  hP := h.hP.ex g.ff
  hE := h.hE.ex g.ff
theorem OneAt.gr (h : OneAt K CS CW F H p t d) (g : Gr [] F H F' H') : OneAt K CS CW F' H' p t d := h.grp (g.mono fun _ hb => absurd hb (by simp)) (h.pe.gr g (by simp))
theorem OneOk.R (o : OneOk d) (x : Int × Str × Int) : x ∈ trip d.wd.m d.s.A ↔ x ∈ trip d.m d.A :=
  trip_same (fun a => o.sA.mem_iff) (fun a ha z => (o.wm _ (o.ok.ar a (o.sA.mem_iff.mp ha)).2.2.1).mem_iff) x
theorem OneOk.P (o : OneOk d) : d.s.P = d.ps := asc_same o.so.asc o.pp fun k => by
  rw [o.so.pl, o.pm, o.sS]
  refine or_congr Iff.rfl (or_congr ?_ ?_) <;> exact exists_congr fun a => and_congr o.sA.mem_iff Iff.rfl
theorem OneOk.rng (o : OneOk d) {z : Int} (h : z ∈ d.ps) : 0 ≤ z ∧ z < 7 := by
  rcases (o.pm z).mp h with h | ⟨b, hb, rfl⟩ | ⟨b, hb, rfl⟩
  · exact o.ok.st z h
  · exact ⟨(o.ok.ar b hb).1, (o.ok.ar b hb).2.1⟩
  · exact ⟨(o.ok.ar b hb).2.2.2.1, (o.ok.ar b hb).2.2.2.2⟩
theorem OneOk.p7 (o : OneOk d) : d.ps.length ≤ 7 := by
  have h := nodup_le (l := d.ps) (m := (List.range 7).map fun i : Nat => (i : Int)) (o.pp.imp fun h e => Int.ne_of_lt h e) fun z hz => by
    obtain ⟨h1, h2⟩ := o.rng hz
    exact List.mem_map.mpr ⟨z.toNat, List.mem_range.mpr (by omega), by omega⟩
  simpa using h
theorem OneOk.all (o : OneOk d) (z : Str) : z ∈ d.wd.all ↔ z ∈ d.es := by
  rw [o.wo.al, o.em]
  exact and_congr Iff.rfl ⟨fun ⟨k, h1, h2⟩ => ⟨k, o.wk.mem_iff.mp h1, (o.wm k (o.wk.mem_iff.mp h1)).mem_iff.mp h2⟩, fun ⟨k, h1, h2⟩ => ⟨k, o.wk.mem_iff.mpr h1, (o.wm k h1).mem_iff.mpr h2⟩⟩
theorem OneOk.e3 (o : OneOk d) : d.es.length ≤ 3 := by
  obtain ⟨_, _, s3, _⟩ := PlainOk.facts o.ok.so
  have h := nodup_le (l := d.es) (m := d.sounds) o.en fun z hz => by
    obtain ⟨h1, k, h2, h3⟩ := (o.em z).mp hz
    exact ((o.ok.mks k h2).2.2.2 z h3).resolve_left h1
  omega
theorem OneOk.bnd (o : OneOk d) : Bnd d.s d.wd where
  A := by have := o.sA.length_eq; have := o.ok.len; omega
  P := by rw [o.P]; have := o.p7; omega
  L := by
    have h := nodup_le (l := d.wd.all) (m := d.es) o.wo.an fun z hz => (o.all z).mp hz
    have := o.e3
    omega
  m := fun k hk => by
    have hk' := o.wk.mem_iff.mp hk
    rw [(o.wm k hk').length_eq]
    exact (o.ok.mks k hk').2.1
  Z := fun z hz => by
    obtain ⟨a, ha, rfl⟩ := (o.so.so z).mp hz
    exact o.wk.mem_iff.mpr (o.ok.ar a (o.sA.mem_iff.mp ha)).2.2.1
theorem OneOk.win (o : OneOk d) : Within (trip d.m d.A) (· ∈ d.ps) := trip_within fun a ha => ⟨(o.pm _).mpr (.inr (.inl ⟨a, ha, rfl⟩)), (o.pm _).mpr (.inr (.inr ⟨a, ha, rfl⟩))⟩
theorem asc_of : ∀ {l : List Int}, l.Pairwise (· < ·) → asc l = true
  | [], _ => rfl
  | [_], _ => rfl
  | x :: y :: r, h => by
    have h' := List.pairwise_cons.mp h
    show (decide (x < y) && asc (y :: r)) = true
    rw [asc_of h'.2, decide_eq_true (h'.1 y List.mem_cons_self)]
    rfl
theorem lot_of {l : List Int} (h : l.Pairwise (· < ·)) (r : ∀ z ∈ l, 0 ≤ z ∧ z ≤ 399) : isLot (.list (l.map .int)) = true ∧ isLot (.tuple (l.map .int)) = true := by
  have e1 : (l.map PyData.int).all (isWithin 0 399) = true := List.all_eq_true.mpr fun d hd => by
    obtain ⟨z, hz, rfl⟩ := List.mem_map.mp hd
    obtain ⟨h1, h2⟩ := r z hz
    simp [isWithin, h1, h2]
  have e2 : asc ((l.map PyData.int).map toI) = true := by
    rw [List.map_map, show (toI ∘ PyData.int) = id from rfl, List.map_id]
    exact asc_of h
  constructor
  · show ((l.map PyData.int).all (isWithin 0 399) && asc ((l.map PyData.int).map toI)) = true
    rw [e1, e2]; rfl
  · show ((l.map PyData.int).all (isWithin 0 399) && asc ((l.map PyData.int).map toI)) = true
    rw [e1, e2]; rfl
theorem OneOk.lot (o : OneOk d) {l : List Int} (h : l.Pairwise (· < ·)) (r : ∀ z ∈ l, z ∈ d.ps) : isLot (.list (l.map .int)) = true ∧ isLot (.tuple (l.map .int)) = true := lot_of h fun z hz => by
  obtain ⟨h1, h2⟩ := o.rng (r z hz)
  omega
theorem nodup_asc {l : List Int} (h : l.Pairwise (· < ·)) : l.Nodup := h.imp fun h e => Int.ne_of_lt h e
theorem asc_le7 (o : OneOk d) {l : List Int} (h : l.Pairwise (· < ·)) (r : ∀ z ∈ l, z ∈ d.ps) : l.length ≤ 7 := Nat.le_trans (nodup_le (nodup_asc h) r) o.p7
/-! ### equality of told places -/
theorem eqvAll_ints : ∀ l m : List Int, PyData.eqvAll (l.map .int) (m.map .int) = decide (l = m)
  | [], [] => by simp [PyData.eqvAll]
  | [], _ :: _ => by simp [PyData.eqvAll]
  | _ :: _, [] => by simp [PyData.eqvAll]
  | x :: l, y :: m => by
    have ih := eqvAll_ints l m
    simp only [List.map_cons, PyData.eqvAll, ih, PyData.eqv]
    by_cases h : x = y <;> simp [h]
theorem eqv_ints (l m : List Int) : PyData.eqv (.tuple (l.map .int)) (.tuple (m.map .int)) = decide (l = m) := by
  rw [← eqvAll_ints]
  simp [PyData.eqv]
theorem shaped_intsT (l : List Int) : SeqAt.shaped (.tuple (l.map .int)) = true := by
  obtain ⟨h1, h2⟩ := flat1_lay (ds := l.map .int) fun e he => by
    obtain ⟨z, _, rfl⟩ := List.mem_map.mp he
    rfl
  simp [SeqAt.shaped, PyData.canLay0, PyData.depth, h1]
  omega
/-- two told lots are compared -/
theorem ne_ints {l m : List Int} {x y : V} {H : Hp} {Q : VK} (hx : Dp K H x (.tuple (l.map .int))) (hy : Dp K H y (.tuple (m.map .int))) (q : Q (.bl (!decide (l = m))) H) : rNeDD K x y H Q :=
  .mk ⟨_, _, hx, hy, shaped_intsT l, shaped_intsT m, by rw [eqv_ints]; exact q⟩
theorem eq_ints {l m : List Int} {x y : V} {H : Hp} {Q : VK} (hx : Dp K H x (.tuple (l.map .int))) (hy : Dp K H y (.tuple (m.map .int))) (q : Q (.bl (decide (l = m))) H) : rEqDD K x y H Q :=
  .mk ⟨_, _, hx, hy, shaped_intsT l, shaped_intsT m, by rw [eqv_ints]; exact q⟩
theorem ne_nil {l : List Str} (hl : ∀ z ∈ l, PyData.strOk z = true) {x : V} {H : Hp} {Q : VK} {p : Addr} (hx : Dp K H x (.list (l.map .str))) (hp : H p = some (.lst [])) (q : Q (.bl (!decide (l = []))) H) : rNeDD K x (.ref p) H Q :=
  .mk ⟨_, .list [], hx, .lst (.inl (.inl hp)) .nil, flat1_shaped (ds := l.map .str) fun e he => by
    obtain ⟨z, hz, rfl⟩ := List.mem_map.mp he
    exact hl z hz, rfl, by
    rw [eqv_nil, show decide (l.map PyData.str = []) = decide (l = []) by simp]
    exact q⟩
end
end TW
set_option Elab.async false
set_option linter.all false
set_option maxRecDepth 100000
set_option maxHeartbeats 8000000
/-! a world renamed -/
namespace TW
open PySem PySem.Spec PyProof.Rows L2
/-! ### names by place -/
section
variable {α β : Type} [DecidableEq α]
/-- what stands where k stands -/
def zf : List α → List β → β → α → β
  | k :: ks, v :: vs, d, x => if x = k then v else zf ks vs d x
  | _, _, d, _ => d
theorem zf_mem : ∀ {ks : List α} {vs : List β} {d : β} {x : α}, x ∈ ks → ks.length ≤ vs.length → zf ks vs d x ∈ vs
  | k :: ks, [], _, _, _, h => by simp at h
  | k :: ks, v :: vs, d, x, hx, h => by
    unfold zf
    by_cases e : x = k
    · rw [if_pos e]; exact List.mem_cons_self
    · rw [if_neg e]
      exact List.mem_cons_of_mem _ (zf_mem ((List.mem_cons.mp hx).resolve_left e) (by simpa using h))
theorem zf_inj : ∀ {ks : List α} {vs : List β} {d : β} {x y : α}, ks.length ≤ vs.length → vs.Nodup → x ∈ ks → y ∈ ks → zf ks vs d x = zf ks vs d y → x = y
  | k :: ks, [], _, _, _, h, _, _, _, _ => by simp at h
  | k :: ks, v :: vs, d, x, y, h, nd, hx, hy, e => by
    have h' : ks.length ≤ vs.length := by simpa using h
    have nd' := List.nodup_cons.mp nd
    unfold zf at e
    by_cases ex : x = k
    · by_cases ey : y = k
      · rw [ex, ey]
      · rw [if_pos ex, if_neg ey] at e
        exact absurd (e ▸ zf_mem ((List.mem_cons.mp hy).resolve_left ey) h') nd'.1
    · by_cases ey : y = k
      · rw [if_neg ex, if_pos ey] at e
        exact absurd (e ▸ zf_mem ((List.mem_cons.mp hx).resolve_left ex) h') nd'.1
      · rw [if_neg ex, if_neg ey] at e
        exact zf_inj h' nd'.2 ((List.mem_cons.mp hx).resolve_left ex) ((List.mem_cons.mp hy).resolve_left ey) e
theorem zf_val {e : α → Key} {g : β → V} (he : ∀ x y, e x = e y → x = y) : ∀ {ks : List α} {vs : List β} {d : β} {x : α}, x ∈ ks → ks.length ≤ vs.length → valV ((ks.map e).zip (vs.map g)) (e x) = some (g (zf ks vs d x))
  | k :: ks, [], _, _, _, h => by simp at h
  | k :: ks, v :: vs, d, x, hx, h => by
    show valV ((e k, g v) :: (ks.map e).zip (vs.map g)) (e x) = _
    unfold zf
    by_cases ex : x = k
    · rw [if_pos ex, valV_pos (by rw [ex])]
    · rw [if_neg ex, valV_neg (fun z => ex (he _ _ z).symm)]
      exact zf_val he ((List.mem_cons.mp hx).resolve_left ex) (by simpa using h)
end
theorem mergeK_app : ∀ {more acc : List (Key × V)}, ((acc ++ more).map (·.1)).Nodup → mergeK acc more = acc ++ more
  | [], acc, _ => by simp [mergeK]
  | kv :: r, acc, h => by
    have hn : (acc.any fun q => decide (q.1 = kv.1)) = false := by
      rw [Bool.eq_false_iff]
      intro z
      obtain ⟨q, q1, q2⟩ := List.any_eq_true.mp z
      rw [List.map_append] at h
      exact (List.nodup_append.mp h).2.2 q.1 (List.mem_map_of_mem q1) kv.1 (by simp) (of_decide_eq_true q2)
    have e : putK acc kv.1 kv.2 = acc ++ [kv] := by
      unfold putK
      rw [hn]
      rfl
    show mergeK (putK acc kv.1 kv.2) r = _
    rw [e, mergeK_app (by simpa using h)]
    simp
theorem mergeK_nil {more : List (Key × V)} (h : (more.map (·.1)).Nodup) : mergeK [] more = more := by
  have z := mergeK_app (more := more) (acc := []) (by simpa using h)
  simpa using z
theorem zip_fst : ∀ {α β : Type} {ks : List α} {vs : List β}, ks.length ≤ vs.length → (ks.zip vs).map (·.1) = ks
  | _, _, [], _, _ => rfl
  | _, _, k :: ks, [], h => by simp at h
  | _, _, k :: ks, v :: vs, h => congrArg (k :: ·) (zip_fst (by simpa using h))
theorem valV_zip : ∀ {ks : List Key} {vs : List V} {i : Nat} {k : Key} {v : V}, ks.Nodup → ks[i]? = some k → vs[i]? = some v → valV (ks.zip vs) k = some v
  | [], _, _, _, _, _, h, _ => by simp at h
  | _ :: _, [], _, _, _, _, _, h => by simp at h
  | a :: ks, b :: vs, 0, k, v, _, h1, h2 => by
    simp at h1 h2
    subst h1; subst h2
    exact valV_pos rfl
  | a :: ks, b :: vs, i + 1, k, v, nd, h1, h2 => by
    have nd' := List.nodup_cons.mp nd
    have hk : k ∈ ks := List.mem_of_getElem? (by simpa using h1)
    show valV ((a, b) :: ks.zip vs) k = _
    rw [valV_neg (fun e => nd'.1 (show a ∈ ks by rw [show a = k from e]; exact hk))]
    exact valV_zip nd'.2 (by simpa using h1) (by simpa using h2)
def toS : PyData → Str
  | .str x => x
  | _ => ""
/-- another order of told ints, texts -/
theorem perm_ints {es : List PyData} {l : List Int} (h : es.Perm (l.map .int)) : ∃ l' : List Int, l'.Perm l ∧ es = l'.map .int := by
  refine ⟨es.map toI, ?_, ?_⟩
  · have z := h.map toI
    rw [List.map_map, show (toI ∘ PyData.int) = id from rfl, List.map_id] at z
    exact z
  · rw [List.map_map]
    have e : ∀ x ∈ es, (PyData.int ∘ toI) x = x := fun x hx => by
      obtain ⟨i, _, rfl⟩ := List.mem_map.mp (h.mem_iff.mp hx)
      rfl
    exact (List.map_congr_left e ▸ (List.map_id' es)).symm
theorem perm_strs {es : List PyData} {l : List Str} (h : es.Perm (l.map .str)) : ∃ l' : List Str, l'.Perm l ∧ es = l'.map .str := by
  refine ⟨es.map toS, ?_, ?_⟩
  · have z := h.map toS
    rw [List.map_map, show (toS ∘ PyData.str) = id from rfl, List.map_id] at z
    exact z
  · rw [List.map_map]
    have e : ∀ x ∈ es, (PyData.str ∘ toS) x = x := fun x hx => by
      obtain ⟨i, _, rfl⟩ := List.mem_map.mp (h.mem_iff.mp hx)
      rfl
    exact (List.map_congr_left e ▸ (List.map_id' es)).symm
structure RenOk (d : OneD) (φ : Int → Int) (σ ν : Str → Str) : Prop where
  pi : ∀ x y, x ∈ d.ps → y ∈ d.ps → φ x = φ y → x = y
  si : ∀ x y, x ∈ d.sounds → y ∈ d.sounds → σ x = σ y → x = y
  ni : ∀ x y : Str, (x = "" ∨ x ∈ d.es) → (y = "" ∨ y ∈ d.es) → ν x = ν y → x = y
  n0 : ν "" = ""
open Classical in
noncomputable def mR (d : OneD) (σ ν : Str → Str) : Str → List Str := fun z => if h : ∃ s, s ∈ d.sounds ∧ σ s = z then (d.m h.choose).map ν else []
section
variable {d : OneD} {φ : Int → Int} {σ ν : Str → Str}
theorem mR_at (r : RenOk d φ σ ν) {s : Str} (hs : s ∈ d.sounds) : mR d σ ν (σ s) = (d.m s).map ν := by
  have h : ∃ x, x ∈ d.sounds ∧ σ x = σ s := ⟨s, hs, rfl⟩
  unfold mR
  rw [dif_pos h, r.si _ _ h.choose_spec.1 hs h.choose_spec.2]
/-- every mark is nothing or among all marks -/
theorem OneOk.mks (o : OneOk d) {s z : Str} (hs : s ∈ d.sounds) (hz : z ∈ d.m s) : z = "" ∨ z ∈ d.es := by
  by_cases e : z = ""
  · exact .inl e
  · exact .inr ((o.em z).mpr ⟨e, s, hs, hz⟩)
theorem ren_law (o : OneOk d) (r : RenOk d φ σ ν) {s' : SpD} {wd' : WaD} (so : s'.Ok) (wo : wd'.Ok) (sA : s'.A.Perm (d.A.map fun a => (φ a.1, σ a.2.1, φ a.2.2))) (sS : ∀ z, z ∈ s'.S ↔ ∃ x, x ∈ d.S ∧ z = φ x) (wk : wd'.ks.Perm (d.sounds.map σ)) (wm : ∀ k ∈ d.sounds.map σ, (wd'.m k).Perm (mR d σ ν k)) :
    Bnd s' wd' ∧ (∀ k ∈ d.es, ν k ∈ wd'.all) ∧ ∀ row : List Str, (∀ k ∈ row, k ∈ d.es) → ∀ q', Goes (trip wd'.m s'.A) (ReachP (trip wd'.m s'.A) (· ∈ s'.S)) (row.map ν) q' ↔ ∃ q, Goes (trip d.m d.A) (ReachP (trip d.m d.A) (· ∈ d.S)) row q ∧ q' = φ q := by
  have hm : ∀ {s}, s ∈ d.sounds → ∀ z, z ∈ wd'.m (σ s) ↔ z ∈ (d.m s).map ν := fun {s} hs z => by
    rw [(wm _ (List.mem_map_of_mem hs)).mem_iff, mR_at r hs]
  have hall : ∀ z, z ∈ wd'.all → ∃ k, k ∈ d.es ∧ z = ν k := fun z hz => by
    obtain ⟨z0, k, hk, hz⟩ := (wo.al z).mp hz
    obtain ⟨s, hs, rfl⟩ := List.mem_map.mp (wk.mem_iff.mp hk)
    obtain ⟨y, hy, rfl⟩ := List.mem_map.mp ((hm hs z).mp hz)
    rcases o.mks hs hy with e | e
    · exact absurd (by rw [e, r.n0]) z0
    · exact ⟨y, e, rfl⟩
  refine ⟨⟨?_, ?_, ?_, ?_, ?_⟩, fun k hk => ?_, fun row hrow => ?_⟩
  · have := sA.length_eq
    rw [List.length_map] at this
    have := o.ok.len
    omega
  · have h := nodup_le (l := s'.P) (m := d.ps.map φ) (nodup_asc so.asc) fun z hz => by
      rcases (so.pl z).mp hz with h | ⟨a, ha, rfl⟩ | ⟨a, ha, rfl⟩
      · obtain ⟨x, hx, rfl⟩ := (sS z).mp h
        exact List.mem_map_of_mem ((o.pm x).mpr (.inl hx))
      · obtain ⟨b, hb, rfl⟩ := List.mem_map.mp (sA.mem_iff.mp ha)
        exact List.mem_map_of_mem ((o.pm _).mpr (.inr (.inl ⟨b, hb, rfl⟩)))
      · obtain ⟨b, hb, rfl⟩ := List.mem_map.mp (sA.mem_iff.mp ha)
        exact List.mem_map_of_mem ((o.pm _).mpr (.inr (.inr ⟨b, hb, rfl⟩)))
    rw [List.length_map] at h
    have := o.p7
    omega
  · have h := nodup_le (l := wd'.all) (m := d.es.map ν) wo.an fun z hz => by
      obtain ⟨k, hk, rfl⟩ := hall z hz
      exact List.mem_map_of_mem hk
    rw [List.length_map] at h
    have := o.e3
    omega
  · intro k hk
    have hk := wk.mem_iff.mp hk
    rw [(wm k hk).length_eq]
    obtain ⟨s, hs, rfl⟩ := List.mem_map.mp hk
    rw [mR_at r hs, List.length_map]
    exact (o.ok.mks s hs).2.1
  · intro z hz
    obtain ⟨a, ha, rfl⟩ := (so.so z).mp hz
    obtain ⟨b, hb, rfl⟩ := List.mem_map.mp (sA.mem_iff.mp ha)
    exact wk.mem_iff.mpr (List.mem_map_of_mem (o.ok.ar b hb).2.2.1)
  · obtain ⟨k0, s, hs, hk'⟩ := (o.em k).mp hk
    refine (wo.al _).mpr ⟨fun e => k0 (r.ni _ _ (.inr hk) (.inl rfl) (by rw [e, r.n0])), σ s, wk.mem_iff.mpr (List.mem_map_of_mem hs), (hm hs _).mpr (List.mem_map_of_mem hk')⟩
  · have im : ∀ t, t ∈ trip wd'.m s'.A ↔ ∃ p k q, (p, k, q) ∈ trip d.m d.A ∧ t = (φ p, ν k, φ q) := fun t => by
      rw [← trip_ren (m' := mR d σ ν) (fun a ha => mR_at r (o.ok.ar a ha).2.2.1)]
      refine trip_same (fun a => sA.mem_iff) (fun a ha z => ?_) t
      obtain ⟨b, hb, rfl⟩ := List.mem_map.mp (sA.mem_iff.mp ha)
      exact (wm _ (List.mem_map_of_mem (o.ok.ar b hb).2.2.1)).mem_iff
    have R : Ren (trip d.m d.A) (trip wd'.m s'.A) (· ∈ d.ps) (fun z => z = "" ∨ z ∈ d.es) φ ν := ⟨o.win, fun p k q h => by
      obtain ⟨s, h1, h2⟩ := mem_trip.mp h
      exact o.mks (o.ok.ar _ h1).2.2.1 h2, fun x y hx hy => r.pi x y hx hy, fun x y hx hy => r.ni x y hx hy, r.n0, .inl rfl, im⟩
    have hS : ∀ z, z ∈ d.S → z ∈ d.ps := fun z hz => (o.pm z).mpr (.inl hz)
    exact R.goes (fun k hk => .inr (hrow k hk)) (fun z hz => ReachP.within o.win hS hz) (fun z => R.reach hS sS z)
end
/-- ints in order -/
theorem sortI_asc {l : List Int} (h : l.Nodup) : (l.mergeSort (PySem.W.dataLe false fun i => PyData.int i)).Pairwise (· < ·) := by
  have pm : (l.mergeSort (PySem.W.dataLe false fun i => PyData.int i)).Perm l := List.mergeSort_perm _ _
  have z := List.pairwise_mergeSort (le := fun a b : Int => decide (a ≤ b)) (fun a b c h1 h2 => by simp only [decide_eq_true_eq] at *; omega) (fun a b => by simp only [Bool.or_eq_true, decide_eq_true_eq]; omega) l
  rw [← PySem.W.dataLe_int (fun b => b)] at z
  refine lt_of_le_nodup _ ?_ (pm.nodup_iff.mpr h)
  rw [PySem.W.dataLe_int (fun b => b)] at z ⊢
  exact z.imp fun h => by simpa using h
end TW
set_option Elab.async false
set_option linter.all false
set_option maxRecDepth 100000
set_option maxHeartbeats 16000000
/-! one drawn world: the last part (all renamed) -/
namespace TW
open PySem PySem.Spec PyProof.Rows L2 RZ StX
open Evl (Ex)
theorem paired_up {α β : Type} {R R' : α → β → Prop} (h : ∀ x y, R x y → R' x y) : ∀ {xs : List α} {ys : List β}, Paired R xs ys → Paired R' xs ys
  | _, _, .nil => .nil
  | _, _, .cons r t => .cons (h _ _ r) (paired_up h t)
/-- list(zip(x, y)) -/
theorem zip_list {K : PySem.W.Frag} {F H : Hp} {a b : Addr} {ks : List Key} {ys : List V} {x y : V} {Q : VK} (fh : Sees F H) (ex : x = .ref a) (ey : y = .ref b) (ha : SqL K H a (ks.map kV)) (hb : SqL K H b ys)
    (q : ∀ S as F' H', Gr [] F H F' H' → H' S = some (.lst (as.map V.ref)) → F' S = some (.lst (as.map V.ref)) → Paired (fun (t : Addr) (kv : Key × V) => F' t = some (.tup [kV kv.1, kv.2])) as (ks.zip ys) → Q (.ref S) H') : rLZ K [x, y] H Q := by
  subst ex; subst ey
  refine .mk ⟨a, b, ks, ys, rfl, ha, hb, fun H' S as e n1 n2 _ n4 n5 => ?_⟩
  have g := (Gr.refl (B := []) fh).more e (S :: as) fun t ht => (List.mem_cons.mp ht).elim (fun z => z ▸ n1) (n2 t)
  refine q S as _ _ g n4 (by show (if S ∈ S :: as then H' S else F S) = _; rw [if_pos List.mem_cons_self]; exact n4) ?_
  have up : ∀ {xs : List Addr} {kvs : List (Key × V)}, (∀ t ∈ xs, t ∈ S :: as) → Paired (fun (t : Addr) (q : Key × V) => H' t = some (.tup [kV q.1, q.2])) xs kvs → Paired (fun (t : Addr) (kv : Key × V) => (if t ∈ S :: as then H' t else F t) = some (.tup [kV kv.1, kv.2])) xs kvs := fun {xs kvs} hs h => by
    induction h with
    | nil => exact .nil
    | cons r t ih => exact .cons (by rw [if_pos (hs _ List.mem_cons_self)]; exact r) (ih fun t ht => hs t (List.mem_cons_of_mem _ ht))
  exact up (fun t ht => List.mem_cons_of_mem _ ht) n5
theorem nodup_inl {l : List Int} (h : l.Nodup) : (l.map Sum.inl : List Key).Nodup := List.pairwise_map.mpr (h.imp fun h e => h (Sum.inl.inj e))
theorem nodup_inr {l : List Str} (h : l.Nodup) : (l.map Sum.inr : List Key).Nodup := List.pairwise_map.mpr (h.imp fun h e => h (Sum.inr.inj e))
theorem paired_snoc {α β : Type} {R : α → β → Prop} {x : α} {y : β} : ∀ {xs : List α} {ys : List β}, Paired R xs ys → R x y → Paired R (xs ++ [x]) (ys ++ [y])
  | _, _, .nil, r => .cons r .nil
  | _, _, .cons h t, r => .cons h (paired_snoc t r)
theorem paired_len {α β : Type} {R : α → β → Prop} : ∀ {xs : List α} {ys : List β}, Paired R xs ys → xs.length = ys.length
  | _, _, .nil => rfl
  | _, _, .cons _ t => congrArg (· + 1) (paired_len t)
theorem sortableI (l : List Int) : PySem.W.Sortable (l.map PyData.int) := PySem.W.Sortable.others fun b => ⟨by simp, fun xs => by simp⟩
theorem valV_at : ∀ {kvs : List (Key × V)} {i : Nat} {k : Key} {v : V}, (kvs.map (·.1)).Nodup → kvs[i]? = some (k, v) → valV kvs k = some v
  | [], _, _, _, _, h => by simp at h
  | q :: r, 0, k, v, _, h => by
    simp at h
    subst h
    exact valV_pos rfl
  | q :: r, i + 1, k, v, nd, h => by
    have nd' := List.nodup_cons.mp nd
    have h' : r[i]? = some (k, v) := by simpa using h
    rw [valV_neg (fun e => nd'.1 (by show q.1 ∈ _; rw [e]; exact List.mem_map_of_mem (f := fun z : Key × V => z.1) (List.mem_of_getElem? h')))]
    exact valV_at nd'.2 h'
/-- an object made by its class -/
theorem make_gr {F H F4 H4 : Hp} {x dx C : Addr} (fs : Sees F H) (hx : H x = none) (hdx : H dx = none) (ne : dx ≠ x) (g : Gr [x] F (upd (upd H dx (.own x)) x (.ins C dx [])) F4 H4) (fx : F4 x = none) : Gr [] F H (upd F4 x ((H4 x).getD (.own 0))) H4 := by
  have n1 : upd H dx (.own x) x = none := by rw [upd_ne (Ne.symm ne)]; exact hx
  have g3 := ((Gr.refl (B := []) fs).newM (o := .own x) hdx).newM (o := .ins C dx []) n1
  have hx4 : H4 x ≠ none := fun z => by
    have z2 := g.dm x z
    rw [upd_same] at z2
    cases z2
  obtain ⟨o, ho⟩ := Option.ne_none_iff_exists'.mp hx4
  rw [ho]
  exact (g3.trans g (fun b hb => .inr (by rw [List.mem_singleton.mp hb]; exact hx))).done hx fx ho
theorem make_sees {F H : Hp} {x dx C : Addr} (fs : Sees F H) (hx : H x = none) (hdx : H dx = none) (ne : dx ≠ x) : Sees F (upd (upd H dx (.own x)) x (.ins C dx [])) :=
  (((Gr.refl (B := []) fs).newM (o := .own x) hdx).newM (o := .ins C dx []) (by rw [upd_ne (Ne.symm ne)]; exact hx)).fh
abbrev eI : Int → PyData := .int
theorem alikeI (l : List Int) : PySem.W.AllAlike (l.map eI) := PySem.W.AllAlike.of fun a b => by simp [PySem.W.alike]
section
variable {P : Program} {w : World} {K : PySem.W.Frag} {mg : Str → Option Value} {base : Heap}
theorem one_d {CS CW f : Addr} {cdv : Value} {A : Around} {outer : List Env} {s : Shared} {H : Hp} {Q : VK} {E : XK} (T : Txt mg) (hr : Room 8 (A.deeper (envOfC "_law_one_right" (defScope s__law_one_right) s.heap.objs.size f cdv)))
    (C__law_shuffled : Cal P w K mg base "_law_shuffled" 2 ["pen", "some"] [] (spShuf K)) (M_Speech : Mkr P w K mg base "Speech" CS 4 ["self", "arrows", "starts"] (spSpI K CS)) (M_Wall : Mkr P w K mg base "Wall" CW 4 ["self", "marks"] (spWaI K CW)) (C_known : Cal P w K mg base "known" 4 ["speech", "wall", "row"] [] (spKnown K CS CW)) :
    ∃ t2, PSs (cxOf CX0 P w K mg base sc__law_one_rightN "_law_one_right" (defScope s__law_one_right) f cdv A outer s H E).nox ((defBody s__law_one_right).drop 8) t2 ∧
      ∀ (F H1 : Hp) (p : Addr) (t : Int) (d : OneD) (o8 o9 o10 o11 o12 o15 o16 : Option V) (vr vh : V) (row : List Str) (ns : List Int), OneAt K CS CW F H1 p t d → OneOk d → t + 100 ≤ 1000000 → Dp K F vr (.list (row.map .str)) → (∀ k ∈ row, k ∈ d.es) → row.length ≤ 40 → Dp K F vh (.tuple (ns.map .int)) → ns.Pairwise (· < ·) →
        (∀ q, q ∈ ns ↔ Goes (trip d.m d.A) (ReachP (trip d.m d.A) (· ∈ d.S)) row q) → (∀ F' H' t', Gr [p] F H1 F' H' → PenAt K F' H' p t' → t ≤ t' → t' ≤ t + 100 → Q (.bl true) H') →
        t2 { nx := fun _ H' => Q .non H', rt := Q } [some (.ref p), some d.va, some d.vst, some (.ref d.a), some (.ref d.sx), some (.ref d.wx), some d.pl, some d.ev, o8, o9, o10, o11, o12, some vr, some vh, o15, o16, none, none, none, none, none, none, none, none, none, none] H1 := by
  have hu := hu_of hr
  have hu8 := hu8_of hr
  have hu16 := hu16_of hr
  have hu64 := hr.units
  have lz : 100000 < sizeLine := by rw [sizeLine_eq]; decide
  refine ⟨_, (pss_cons (zs (i := 17) sc__law_one_right.nd (pe_callTy (call_dictP rfl) (by rfl) T.dict bt_dict (pa_cons (pe_listZip K (pa_cons (pv 6) (pa_cons (pe_cal C__law_shuffled (hr.mono (by decide)) (pa_cons (pv 0) (pa_cons (pe_lc (own := [("at", 18)]) rfl sc__law_one_right.nd (pi_range1 rfl T.range (pa_cons (pe_callB (cr_len K) (by rfl) T.len bt_len (pa_cons (pv 6) pa_nil)) pa_nil)) (blkOk_by (N := sc__law_one_rightN) (sc := defScope s__law_one_right) (by decide +kernel)) (fun _ _ _ _ _ => (zg (i := 18) sc__law_one_right.nd)) (fun _ _ _ _ _ => pts_nil) (fun _ _ _ _ _ => (pe_op op_add (pe_op op_mul pe_int (pv 18)) pe_int))) pa_nil))) pa_nil)) T.list T.zip) pa_nil)))
      (pss_cons (zs (i := 19) sc__law_one_right.nd (pe_callTy (call_dictP rfl) (by rfl) T.dict bt_dict (pa_cons (pe_listZip K (pa_cons (pe_callB (cr_sortedD K hu16) (by rfl) T.sorted bt_sorted (pa_cons (pe_callTy (call_listD rfl) (by rfl) T.list bt_list (pa_cons (pv 3) pa_nil)) pa_nil)) (pa_cons (pe_cal C__law_shuffled (hr.mono (by decide)) (pa_cons (pv 0) (pa_cons (pe_lst (pa_cons pe_str (pa_cons pe_str (pa_cons pe_str (pa_cons pe_str pa_nil))))) pa_nil))) pa_nil)) T.list T.zip) pa_nil)))
      (pss_cons (zs (i := 20) sc__law_one_right.nd (pe_callTy (call_dictP rfl) (by rfl) T.dict bt_dict (pa_cons (pe_op op_cat (pe_listZip K (pa_cons (pv 7) (pa_cons (pe_cal C__law_shuffled (hr.mono (by decide)) (pa_cons (pv 0) (pa_cons (pe_lst (pa_cons pe_str (pa_cons pe_str (pa_cons pe_str (pa_cons pe_str (pa_cons pe_str pa_nil)))))) pa_nil))) pa_nil)) T.list T.zip) (pe_lst (pa_cons (pe_tup (pa_cons pe_str (pa_cons pe_str pa_nil))) pa_nil))) pa_nil)))
      (pss_cons (zs (i := 21) sc__law_one_right.nd (pe_mk M_Speech (hr.mono (by decide)) (pa_cons (pe_lc (own := [("place", 22), ("sound", 23), ("later", 24)]) rfl sc__law_one_right.nd (zseq K (pv 1)) (blkOk_by (N := sc__law_one_rightN) (sc := defScope s__law_one_right) (by decide +kernel)) (fun _ _ _ _ _ => (zpg (n := 3) K (pgs_cons (zg (i := 22) sc__law_one_right.nd) (pgs_cons (zg (i := 23) sc__law_one_right.nd) (pgs_cons (zg (i := 24) sc__law_one_right.nd) pgs_nil))))) (fun _ _ _ _ _ => pts_nil) (fun _ _ _ _ _ => (pe_tup (pa_cons (pe_dget hu (pv 17) (pv 22) (fun _ _ => rfl)) (pa_cons (pe_dget hu (pv 19) (pv 23) (fun _ _ => rfl)) (pa_cons (pe_dget hu (pv 17) (pv 24) (fun _ _ => rfl)) pa_nil)))))) (pa_cons (pe_callB (cr_sortedD K hu16) (by rfl) T.sorted bt_sorted (pa_cons (pe_lc (own := [("start", 25)]) rfl sc__law_one_right.nd (zseq K (pv 2)) (blkOk_by (N := sc__law_one_rightN) (sc := defScope s__law_one_right) (by decide +kernel)) (fun _ _ _ _ _ => (zg (i := 25) sc__law_one_right.nd)) (fun _ _ _ _ _ => pts_nil) (fun _ _ _ _ _ => (pe_dget hu (pv 17) (pv 25) (fun _ _ => rfl)))) pa_nil)) pa_nil))))
      (pss_cons (zs (i := 26) sc__law_one_right.nd (pe_mk M_Wall (hr.mono (by decide)) (pa_cons (pe_callTy (call_dictP rfl) (by rfl) T.dict bt_dict (pa_cons (pe_lock (pe_lc (own := [("sound", 23)]) rfl sc__law_one_right.nd (pi_keys (pv 3)) (blkOk_by (N := sc__law_one_rightN) (sc := defScope s__law_one_right) (by decide +kernel)) (fun _ _ _ _ _ => (zg (i := 23) sc__law_one_right.nd)) (fun _ _ _ _ _ => pts_nil) (fun _ _ _ _ _ => (pe_tup (pa_cons (pe_dget hu (pv 19) (pv 23) (fun _ _ => rfl)) (pa_cons (pe_lc (own := [("mark", 10)]) rfl sc__law_one_right.nd (zseq K (pe_dget hu (pv 3) (pv 23) (fun _ _ => rfl))) (blkOk_by (by first | rfl | kernel_rfl)) (fun _ _ _ _ _ => (zg (i := 10) sc__law_one_right.nd)) (fun _ _ _ _ _ => pts_nil) (fun _ _ _ _ _ => (pe_dget hu (pv 20) (pv 10) (fun _ _ => rfl)))) pa_nil)))))) pa_nil)) pa_nil)))
      (pss_one (ps_ret (pe_cmpR (op_eqDD K hu64) (pe_cal C_known (hr.mono (by decide)) (pa_cons (pv 21) (pa_cons (pv 26) (pa_cons (pe_lc (own := [("mark", 10)]) rfl sc__law_one_right.nd (zseq K (pv 13)) (blkOk_by (N := sc__law_one_rightN) (sc := defScope s__law_one_right) (by decide +kernel)) (fun _ _ _ _ _ => (zg (i := 10) sc__law_one_right.nd)) (fun _ _ _ _ _ => pts_nil) (fun _ _ _ _ _ => (pe_dget hu (pv 20) (pv 10) (fun _ _ => rfl)))) pa_nil)))) (pe_callTy (cr_tuple K) (by rfl) T.tuple bt_tuple (pa_cons (pe_callB (cr_sortedD K hu16) (by rfl) T.sorted bt_sorted (pa_cons (pe_lc (own := [("place", 22)]) rfl sc__law_one_right.nd (zseq K (pv 14)) (blkOk_by (N := sc__law_one_rightN) (sc := defScope s__law_one_right) (by decide +kernel)) (fun _ _ _ _ _ => (zg (i := 22) sc__law_one_right.nd)) (fun _ _ _ _ _ => pts_nil) (fun _ _ _ _ _ => (pe_dget hu (pv 17) (pv 22) (fun _ _ => rfl)))) pa_nil)) pa_nil)) (nomark _))))))))), ?_⟩
  intro F H1 p t d o8 o9 o10 o11 o12 o15 o16 vr vh row ns at1 ok ht hrow hre hrl hh hhs hhm q
  obtain ⟨pa, px, epl, hpa, hpx⟩ := dp_list at1.hP
  rw [dps_int] at hpx
  subst hpx
  have p7 := ok.p7
  -- led
  refine ⟨_, rfl, _, rfl, _, rfl, len_dp at1.hP (.inl rfl) at1.fh ⟨_, rfl, by omega, by rw [List.length_map]; omega, ?_⟩⟩
  rw [Int.toNat_natCast, List.length_map]
  intro D hD
  refine lc_map (K := K) (F := F) (bs := List.range d.ps.length) (f := fun i : Nat => PyData.int (3 * (i : Int) + 7)) (Im := fun i x _ => x = .int (i : Nat)) (by rw [List.length_range]; exact walk_range) at1.fh (fun _ _ => True.intro) (by rw [List.length_range]; omega) (fun i b x F' H' H'' hb gr y => ?_)
    (fun b x F' H' hb gr im => ?_) hD fun acc F2 H2 g2 fD hDc hacc => ?_
  · obtain ⟨rfl, rfl⟩ := y
    have e := List.getElem?_range (n := d.ps.length) (i := i) (by simpa using (List.getElem?_eq_some_iff.mp hb).1)
    rw [e] at hb
    cases hb
    exact ⟨F', Gr.refl gr.fh, by show V.int (0 + (i : Int)) = _; rw [Int.zero_add]⟩
  · subst im
    exact turn1 rfl fun Yes h => ⟨_, rfl, _, _, rfl, rfl, .inl ⟨by decide, by decide⟩, _, _, rfl, rfl, h _ _ _ (Gr.refl gr.fh) (.int _)⟩
  have e7 : ((List.range d.ps.length).map fun i : Nat => PyData.int (3 * (i : Int) + 7)) = ((List.range d.ps.length).map fun i : Nat => 3 * (i : Int) + 7).map .int := by rw [List.map_map]; rfl
  rw [e7] at hacc
  have nd7 : ((List.range d.ps.length).map fun i : Nat => 3 * (i : Int) + 7).Nodup := List.pairwise_map.mpr (List.nodup_range.imp fun h e => h (by omega))
  have r7 : ∀ z ∈ (List.range d.ps.length).map (fun i : Nat => 3 * (i : Int) + 7), 0 ≤ z ∧ z ≤ 399 := fun z hz => by
    obtain ⟨i, hi, rfl⟩ := List.mem_map.mp hz
    have := List.mem_range.mp hi
    omega
  have l7 : ((List.range d.ps.length).map fun i : Nat => 3 * (i : Int) + 7).length = d.ps.length := by simp
  generalize ((List.range d.ps.length).map fun i : Nat => 3 * (i : Int) + 7) = r at hacc nd7 r7 l7
  have gd := g2.done hD fD hDc
  have at2 := at1.gr gd
  have hr2 : Dp K (upd F2 D (.lst acc)) (.ref D) (.list (r.map .int)) := .lst (.inl (.inl upd_same)) (hacc.ex (Ex.new fD))
  refine ⟨_, _, _, _, _, t, rfl, at2.fh, at2.pe, by rw [List.length_map]; omega, hr2, .inl rfl, by rw [List.length_map]; omega, fun e he => ?_, fun v3 es3 t3 F3 H3 pm hv3 u1 u2 g3 hp3 => ?_⟩
  · obtain ⟨z, _, rfl⟩ := List.mem_map.mp he
    rfl
  obtain ⟨r3, pr3, rfl⟩ := perm_ints pm
  have at3 := at2.grp g3 hp3
  have g03 : Gr [p] F H1 F3 H3 := (gd.mono fun _ hb => absurd hb (by simp)).trans g3 fun b hb => .inl hb
  rw [List.length_map, l7] at u2
  clear at2 hr2 pm e7 gd g2 hDc fD hD
  obtain ⟨b3, xb3, rfl, hb3, hxb3⟩ := dp_list hv3
  rw [dps_int] at hxb3
  subst hxb3
  have r3l : d.ps.length ≤ r3.length := by rw [pr3.length_eq, l7]; exact Nat.le_refl _
  show rLZ K [d.pl, V.ref b3] H3 _
  refine zip_list (ks := d.ps.map Sum.inl) at3.fh epl rfl (by rw [keys_int]; exact sees_l at3.fh (Evl.ex_l g03.ff hpa)) (sees_l at3.fh hb3) fun S4 as4 F4 H4 g4 hS4 fS4 pr4 => ⟨S4, as4, _, rfl, .inl (.inl hS4), paired_up (fun t _ h => sees_t g4.fh (.inl (.inl h))) pr4, fun L hL0 => ?_⟩
  rw [mergeK_nil (by rw [zip_fst (by rw [List.length_map, List.length_map]; exact r3l)]; exact nodup_inl (nodup_asc ok.pp))]
  have g4 := g4.new (o := .dK ((d.ps.map Sum.inl : List Key).zip (r3.map V.int))) hL0
  have fL : upd F4 L (.dK ((d.ps.map Sum.inl : List Key).zip (r3.map V.int))) L = some (.dK ((d.ps.map Sum.inl : List Key).zip (r3.map V.int))) := upd_same
  have hL : upd H4 L (.dK ((d.ps.map Sum.inl : List Key).zip (r3.map V.int))) L = some (.dK ((d.ps.map Sum.inl : List Key).zip (r3.map V.int))) := upd_same
  generalize upd H4 L (.dK ((d.ps.map Sum.inl : List Key).zip (r3.map V.int))) = H4' at g4 hL ⊢
  generalize upd F4 L (.dK ((d.ps.map Sum.inl : List Key).zip (r3.map V.int))) = F4' at g4 fL
  have pinj : ∀ x y, x ∈ d.ps → y ∈ d.ps → zf d.ps r3 0 x = zf d.ps r3 0 y → x = y := fun x y hx hy e => zf_inj r3l (pr3.nodup_iff.mpr nd7) hx hy e
  have prng : ∀ x ∈ d.ps, 0 ≤ zf d.ps r3 0 x ∧ zf d.ps r3 0 x ≤ 399 := fun x hx => r7 _ (pr3.mem_iff.mp (zf_mem hx r3l))
  have pval : ∀ x ∈ d.ps, valV ((d.ps.map Sum.inl : List Key).zip (r3.map V.int)) (Sum.inl x) = some (.int (zf d.ps r3 0 x)) := fun x hx => zf_val (fun _ _ e => Sum.inl.inj e) hx r3l
  generalize zf d.ps r3 0 = φ at pinj prng pval
  generalize ((d.ps.map Sum.inl : List Key).zip (r3.map V.int)) = kvL at pval fL hL
  have at4 := at3.gr g4
  have g04 := g03.trans g4
  clear at3 g03 g3 hp3 hb3 hv3 r7 nd7 pr3 l7 r3l hS4 fS4 pr4 hL0
  -- sounds
  obtain ⟨snd, s0, s3, sne, sOk⟩ := PlainOk.facts ok.ok.so
  refine ⟨_, rfl, d.a, d.kvs, rfl, .inl at4.ha, fun p5 hp5 => ?_⟩
  rw [tells_keys at4.tl]
  have g5 := (Gr.refl (B := []) at4.fh).new (o := .lst (d.sounds.map V.str)) hp5
  have h5 : upd H4' p5 (.lst (d.sounds.map V.str)) p5 = some (.lst (d.sounds.map V.str)) := upd_same
  generalize upd H4' p5 (.lst (d.sounds.map V.str)) = H5 at g5 h5 ⊢
  generalize upd F4' p5 (.lst (d.sounds.map V.str)) = F5 at g5
  refine ⟨Str, eS, d.sounds, p5, d.sounds.map V.str, F5, rfl, g5.fh, .inl (.inl h5), dps_str.mpr rfl, alikeS _, sortableS _, fun b _ => eS_depth b, fun ys p6 hy hp6 => ?_⟩
  generalize ek : d.sounds.mergeSort (PySem.W.dataLe false eS) = ks2 at hy
  have pk : ks2.Perm d.sounds := ek ▸ List.mergeSort_perm _ _
  clear ek
  have hys := dps_str.mp hy
  subst hys
  have g6 := g5.new (o := .lst (ks2.map V.str)) hp6
  have f6 : upd F5 p6 (.lst (ks2.map V.str)) p6 = some (.lst (ks2.map V.str)) := upd_same
  generalize upd H5 p6 (.lst (ks2.map V.str)) = H6 at g6 ⊢
  generalize upd F5 p6 (.lst (ks2.map V.str)) = F6 at g6 f6
  refine ⟨_, rfl, by show 4 ≤ sizeLine; omega, fun L7 hL7 => ?_⟩
  have g7 := g6.new (o := .lst [.str "m", .str "z", .str "k", .str "f"]) hL7
  have f7 : upd F6 L7 (.lst [.str "m", .str "z", .str "k", .str "f"]) L7 = some (.lst [.str "m", .str "z", .str "k", .str "f"]) := upd_same
  have f67 := Ex.new (o := HO.lst [.str "m", .str "z", .str "k", .str "f"]) (g6.fh.dm hL7) _ _ f6
  generalize upd H6 L7 (.lst [.str "m", .str "z", .str "k", .str "f"]) = H7 at g7 ⊢
  generalize upd F6 L7 (.lst [.str "m", .str "z", .str "k", .str "f"]) = F7 at g7 f7 f67
  have at7 := at4.gr g7
  have d7 : Dp K F7 (.ref L7) (.list ((["m", "z", "k", "f"] : List Str).map .str)) := .lst (.inl (.inl f7)) (.cons (.str _) (.cons (.str _) (.cons (.str _) (.cons (.str _) .nil))))
  refine ⟨_, _, _, _, _, t3, rfl, at7.fh, at7.pe, by simp; omega, d7, .inl rfl, by simp, by decide +kernel, fun v8 es8 t8 F8 H8 pm8 hv8 u3 u4 g8 hp8 => ?_⟩
  obtain ⟨l8, pl8, rfl⟩ := perm_strs pm8
  have u4 : t8 ≤ t3 + 4 := u4
  have at8 := at7.grp g8 hp8
  have g08 : Gr [p] F H1 F8 H8 := (g04.trans g7).trans g8 fun b hb => .inl hb
  obtain ⟨b8, xb8, rfl, hb8, hxb8⟩ := dp_list hv8
  rw [dps_str] at hxb8
  subst hxb8
  have l8l : ks2.length ≤ l8.length := by
    rw [pk.length_eq, pl8.length_eq]
    exact Nat.le_trans s3 (by decide)
  have nd8 : l8.Nodup := pl8.nodup_iff.mpr (by decide +kernel)
  have ndk : ks2.Nodup := pk.nodup_iff.mpr snd
  have f68 := g8.ff _ _ f67
  have fL8 := (g7.ff.trans g8.ff) _ _ fL
  show rLZ K [V.ref p6, V.ref b8] H8 _
  refine zip_list (ks := ks2.map Sum.inr) at8.fh rfl rfl (by rw [keys_str]; exact .inl (.inl (sees_lst at8.fh f68))) (sees_l at8.fh hb8) fun S9 as9 F9 H9 g9 hS9 fS9 pr9 => ⟨S9, as9, _, rfl, .inl (.inl hS9), paired_up (fun t _ h => sees_t g9.fh (.inl (.inl h))) pr9, fun M hM0 => ?_⟩
  rw [mergeK_nil (by rw [zip_fst (by rw [List.length_map, List.length_map]; exact l8l)]; exact nodup_inr ndk)]
  have g9 := g9.new (o := .dK ((ks2.map Sum.inr : List Key).zip (l8.map V.str))) hM0
  have fM : upd F9 M (.dK ((ks2.map Sum.inr : List Key).zip (l8.map V.str))) M = some (.dK ((ks2.map Sum.inr : List Key).zip (l8.map V.str))) := upd_same
  generalize upd H9 M (.dK ((ks2.map Sum.inr : List Key).zip (l8.map V.str))) = H9' at g9 ⊢
  generalize upd F9 M (.dK ((ks2.map Sum.inr : List Key).zip (l8.map V.str))) = F9' at g9 fM
  have sinj : ∀ x y, x ∈ d.sounds → y ∈ d.sounds → zf ks2 l8 "" x = zf ks2 l8 "" y → x = y := fun x y hx hy e => zf_inj l8l nd8 (pk.mem_iff.mpr hx) (pk.mem_iff.mpr hy) e
  have srng : ∀ x ∈ d.sounds, zf ks2 l8 "" x ∈ (["m", "z", "k", "f"] : List Str) := fun x hx => pl8.mem_iff.mp (zf_mem (pk.mem_iff.mpr hx) l8l)
  have sval : ∀ x ∈ d.sounds, valV ((ks2.map Sum.inr : List Key).zip (l8.map V.str)) (Sum.inr x) = some (.str (zf ks2 l8 "" x)) := fun x hx => zf_val (fun _ _ e => Sum.inr.inj e) (pk.mem_iff.mpr hx) l8l
  generalize zf ks2 l8 "" = σ at sinj srng sval
  generalize ((ks2.map Sum.inr : List Key).zip (l8.map V.str)) = kvM at sval fM
  have at9 := at8.gr g9
  have g09 := g08.trans g9
  have fL9 := g9.ff _ _ fL8
  clear at8 g08 g9 hS9 fS9 pr9 hM0 f68 l8l nd8 ndk hb8 pl8 pm8 hv8 g8 hp8 d7 f67 f7 at7 g7 hL7 f6 g6 hp6 hy pk h5 g5 hp5 at4 g04 g4 fL hL fL8
  -- names
  obtain ⟨pe, xe, epe, hpe, hxe⟩ := dp_list at9.hE
  rw [dps_str] at hxe
  subst hxe
  have e3 := ok.e3
  refine ⟨_, rfl, _, rfl, by show 5 ≤ sizeLine; omega, fun L10 hL10 => ?_⟩
  have g10 := (Gr.refl (B := []) at9.fh).new (o := .lst [.str "x", .str "y+", .str "-", .str "zz", .str "a"]) hL10
  have f10 : upd F9' L10 (.lst [.str "x", .str "y+", .str "-", .str "zz", .str "a"]) L10 = some (.lst [.str "x", .str "y+", .str "-", .str "zz", .str "a"]) := upd_same
  generalize upd H9' L10 (.lst [.str "x", .str "y+", .str "-", .str "zz", .str "a"]) = H10 at g10 ⊢
  generalize upd F9' L10 (.lst [.str "x", .str "y+", .str "-", .str "zz", .str "a"]) = F10 at g10 f10
  have at10 := at9.gr g10
  have d10 : Dp K F10 (.ref L10) (.list ((["x", "y+", "-", "zz", "a"] : List Str).map .str)) := .lst (.inl (.inl f10)) (.cons (.str _) (.cons (.str _) (.cons (.str _) (.cons (.str _) (.cons (.str _) .nil)))))
  refine ⟨_, _, _, _, _, t8, rfl, at10.fh, at10.pe, by simp; omega, d10, .inl rfl, by simp, by decide +kernel, fun v11 es11 t11 F11 H11 pm11 hv11 u5 u6 g11 hp11 => ?_⟩
  obtain ⟨l11, pl11, rfl⟩ := perm_strs pm11
  have u6 : t11 ≤ t8 + 5 := u6
  have at11 := at10.grp g11 hp11
  have g011 : Gr [p] F H1 F11 H11 := (g09.trans g10).trans g11 fun b hb => .inl hb
  obtain ⟨b11, xb11, rfl, hb11, hxb11⟩ := dp_list hv11
  rw [dps_str] at hxb11
  subst hxb11
  have l11l : d.es.length ≤ l11.length := by
    rw [pl11.length_eq]
    exact Nat.le_trans e3 (by decide)
  have nd11 : l11.Nodup := pl11.nodup_iff.mpr (by decide +kernel)
  have g911 := g10.ff.trans g11.ff
  have fL11 := g911 _ _ fL9
  have fM11 := g911 _ _ fM
  show rLZ K [d.ev, V.ref b11] H11 _
  refine zip_list (ks := d.es.map Sum.inr) at11.fh epe rfl (by rw [keys_str]; exact sees_l at11.fh (Evl.ex_l g911 hpe)) (sees_l at11.fh hb11) fun S12 as12 F12 H12 g12 hS12 fS12 pr12 => ?_
  refine ⟨by show 2 ≤ sizeLine; omega, fun T13 hT13 => ⟨by show 1 ≤ sizeLine; omega, fun L14 hL14 => ?_⟩⟩
  have zl : ((d.es.map Sum.inr : List Key).zip (l11.map V.str)).length = d.es.length := by rw [List.length_zip, List.length_map, List.length_map]; omega
  have la := paired_len pr12
  rw [zl] at la
  have g13 := g12.new (o := .tup [.str "", .str ""]) hT13
  have g14 := g13.newM (o := .lst [.ref T13]) hL14
  have hS14 : upd (upd H12 T13 (.tup [.str "", .str ""])) L14 (.lst [.ref T13]) S12 = some (.lst (as12.map V.ref)) := sees_lst g14.fh (Ex.new (g12.fh.dm hT13) _ _ fS12)
  refine ⟨S12, L14, _, _, rfl, rfl, hS14, upd_same, by rw [List.length_map]; simp; omega, fun N15 hN15 => ?_⟩
  have g15 := g14.newM (o := .lst (as12.map V.ref ++ [.ref T13])) hN15
  have nev : ("" : Str) ∉ d.es := fun h => ((ok.em "").mp h).1 rfl
  have ndz : (((d.es.map Sum.inr : List Key).zip (l11.map V.str) ++ [((Sum.inr ("" : Str) : Key), V.str ("" : Str))]).map (·.1)).Nodup := by
    rw [List.map_append, zip_fst (by rw [List.length_map, List.length_map]; exact l11l)]
    refine List.nodup_append.mpr ⟨nodup_inr ok.en, by simp, fun x hx y hy e => ?_⟩
    obtain ⟨z, hz, rfl⟩ := List.mem_map.mp hx
    rw [List.mem_singleton.mp hy] at e
    exact nev (Sum.inr.inj e ▸ hz)
  refine ⟨N15, as12 ++ [T13], (d.es.map Sum.inr : List Key).zip (l11.map V.str) ++ [((Sum.inr ("" : Str) : Key), V.str ("" : Str))], rfl, .inl (.inl (by rw [List.map_append]; exact upd_same)), paired_snoc (paired_up (fun t _ h => sees_t g15.fh (.inl (.inl (Ex.new (g12.fh.dm hT13) _ _ h)))) pr12) (sees_t g15.fh (.inl (.inl upd_same))), fun U hU => ?_⟩
  rw [mergeK_nil ndz]
  have g16 := g15.new (o := .dK ((d.es.map Sum.inr : List Key).zip (l11.map V.str) ++ [((Sum.inr ("" : Str) : Key), V.str ("" : Str))])) hU
  have fU : upd (upd F12 T13 (.tup [.str "", .str ""])) U (.dK ((d.es.map Sum.inr : List Key).zip (l11.map V.str) ++ [((Sum.inr ("" : Str) : Key), V.str ("" : Str))])) U = some (.dK ((d.es.map Sum.inr : List Key).zip (l11.map V.str) ++ [((Sum.inr ("" : Str) : Key), V.str ("" : Str))])) := upd_same
  have ninj : ∀ x y : Str, (x = "" ∨ x ∈ d.es) → (y = "" ∨ y ∈ d.es) → (if x = "" then ("" : Str) else zf d.es l11 "" x) = (if y = "" then ("" : Str) else zf d.es l11 "" y) → x = y := fun x y hx hy e => by
    have ne5 : ∀ z ∈ d.es, zf d.es l11 "" z ≠ "" := fun z hz e => by
      have := pl11.mem_iff.mp (zf_mem (d := ("" : Str)) hz l11l)
      rw [e] at this
      exact absurd this (by decide +kernel)
    by_cases ex : x = ""
    · by_cases ey : y = ""
      · rw [ex, ey]
      · rw [if_pos ex, if_neg ey] at e
        exact absurd e.symm (ne5 y (hy.resolve_left ey))
    · by_cases ey : y = ""
      · rw [if_neg ex, if_pos ey] at e
        exact absurd e (ne5 x (hx.resolve_left ex))
      · rw [if_neg ex, if_neg ey] at e
        exact zf_inj l11l nd11 (hx.resolve_left ex) (hy.resolve_left ey) e
  have nrng : ∀ x ∈ d.es, (if x = "" then ("" : Str) else zf d.es l11 "" x) ∈ (["x", "y+", "-", "zz", "a"] : List Str) := fun x hx => by
    rw [if_neg (fun e : x = "" => nev (by rw [← e]; exact hx))]
    exact pl11.mem_iff.mp (zf_mem hx l11l)
  have nval : ∀ x : Str, (x = "" ∨ x ∈ d.es) → valV ((d.es.map Sum.inr : List Key).zip (l11.map V.str) ++ [((Sum.inr ("" : Str) : Key), V.str ("" : Str))]) (Sum.inr x) = some (.str (if x = "" then ("" : Str) else zf d.es l11 "" x)) := fun x hx => by
    have vn : valV ((d.es.map Sum.inr : List Key).zip (l11.map V.str)) (Sum.inr ("" : Str)) = none := by
      cases e : valV ((d.es.map Sum.inr : List Key).zip (l11.map V.str)) (Sum.inr ("" : Str)) with
      | none => rfl
      | some v =>
        have z := valV_in e
        rw [zip_fst (by rw [List.length_map, List.length_map]; exact l11l)] at z
        obtain ⟨y, y1, y2⟩ := List.mem_map.mp z
        exact absurd (Sum.inr.inj y2 ▸ y1) nev
    rw [valV_snoc _ _ _ _ vn]
    by_cases ex : x = ""
    · rw [if_pos (by rw [ex]), if_pos ex]
    · rw [if_neg (fun e => ex (Sum.inr.inj e)), if_neg ex]
      exact zf_val (fun _ _ e => Sum.inr.inj e) (hx.resolve_left ex) l11l
  obtain ⟨ν, hν⟩ : ∃ ν : Str → Str, ν = fun x : Str => if x = "" then ("" : Str) else zf d.es l11 "" x := ⟨_, rfl⟩
  have n0 : ν "" = "" := by rw [hν]; rfl
  have ninj : ∀ x y : Str, (x = "" ∨ x ∈ d.es) → (y = "" ∨ y ∈ d.es) → ν x = ν y → x = y := by rw [hν]; exact ninj
  have nrng : ∀ x ∈ d.es, ν x ∈ (["x", "y+", "-", "zz", "a"] : List Str) := by rw [hν]; exact nrng
  have nval : ∀ x : Str, (x = "" ∨ x ∈ d.es) → valV ((d.es.map Sum.inr : List Key).zip (l11.map V.str) ++ [((Sum.inr ("" : Str) : Key), V.str ("" : Str))]) (Sum.inr x) = some (.str (ν x)) := by rw [hν]; exact nval
  clear hν
  generalize (d.es.map Sum.inr : List Key).zip (l11.map V.str) ++ [((Sum.inr ("" : Str) : Key), V.str ("" : Str))] = kvU at g16 fU nval ⊢
  have fL16 := (g12.ff.trans ((Ex.new (o := HO.tup [.str "", .str ""]) (g12.fh.dm hT13)).trans (Ex.new (o := HO.dK kvU) (g15.fh.dm hU)))) _ _ fL11
  have fM16 := (g12.ff.trans ((Ex.new (o := HO.tup [.str "", .str ""]) (g12.fh.dm hT13)).trans (Ex.new (o := HO.dK kvU) (g15.fh.dm hU)))) _ _ fM11
  generalize upd (upd (upd (upd H12 T13 (.tup [.str "", .str ""])) L14 (.lst [.ref T13])) N15 (.lst (as12.map V.ref ++ [.ref T13]))) U (.dK kvU) = H16 at g16 ⊢
  generalize upd (upd F12 T13 (.tup [.str "", .str ""])) U (.dK kvU) = F16 at g16 fU fL16 fM16
  have at16 := at11.gr g16
  have g016 := g011.trans g16
  have ren : RenOk d φ σ ν := ⟨pinj, sinj, ninj, n0⟩
  clear at11 g011 g13 g14 g15 g12 hT13 hL14 hN15 hU hS14 hS12 fS12 pr12 la zl ndz l11l nd11 hb11 pl11 pm11 hv11 g11 hp11 d10 f10 at10 g10 hL10 at9 g09 g911 hpe fL11 fM11 pinj sinj ninj fL9 fM
  -- turned
  have inP : ∀ b ∈ d.A, b.1 ∈ d.ps ∧ b.2.1 ∈ d.sounds ∧ b.2.2 ∈ d.ps := fun b hb => ⟨(ok.pm _).mpr (.inr (.inl ⟨b, hb, rfl⟩)), (ok.ok.ar b hb).2.2.1, (ok.pm _).mpr (.inr (.inr ⟨b, hb, rfl⟩))⟩
  have inS : ∀ z ∈ d.S, z ∈ d.ps := fun z hz => (ok.pm z).mpr (.inl hz)
  have lA := ok.ok.len
  have lS := ok.ok.sl
  refine ⟨_, rfl, seq_walk at16.hA (.inl rfl) at16.fh fun J xs G w1 hG hxs hlen D hD => ?_⟩
  refine lc_seqM (bs := d.A) (enc := encA) (f := fun b => encA (φ b.1, σ b.2.1, φ b.2.2)) w1 hxs at16.fh hG (by omega) (fun b y F1 H1 hb g1 hy => ?_) hD fun acc F17 H17 g17 fD hDc hacc => ?_
  · obtain ⟨T1, xs1, rfl, hT, hx1⟩ := dp_tup (show Dp K F1 y (.tuple [.int b.1, .str b.2.1, .int b.2.2]) from hy)
    obtain rfl := dps3 hx1
    obtain ⟨q1, q2, q3⟩ := inP b hb
    intro Yes No n0 n1
    refine ⟨T1, _, rfl, sees_t g1.fh hT, rfl, _, _, rfl, _, _, rfl, _, _, rfl, rfl, rfl, yesI ?_⟩
    refine ⟨_, rfl, _, rfl, L, _, rfl, .inl ⟨kvL, Sum.inl b.1, sees_d g1.fh (g1.ff _ _ fL16), rfl, (pval _ q1).symm⟩, _, rfl, _, rfl, M, _, rfl, .inl ⟨kvM, Sum.inr b.2.1, sees_d g1.fh (g1.ff _ _ fM16), rfl, (sval _ q2).symm⟩, _, rfl, _, rfl, L, _, rfl, .inl ⟨kvL, Sum.inl b.2.2, sees_d g1.fh (g1.ff _ _ fL16), rfl, (pval _ q3).symm⟩, by show 3 ≤ sizeLine; omega, fun T2 hT2 => ?_⟩
    exact n1 rfl _ _ _ ((Gr.refl g1.fh).new hT2) (.tup (.inl (.inl upd_same)) (.cons (.int _) (.cons (.str _) (.cons (.int _) .nil))))
  have gd17 := g17.done hD fD hDc
  have at17 := at16.gr gd17
  have eA : (d.A.map fun b => encA (φ b.1, σ b.2.1, φ b.2.2)) = (d.A.map fun b => (φ b.1, σ b.2.1, φ b.2.2)).map encA := by rw [List.map_map]; rfl
  rw [eA] at hacc
  have dA : Dp K (upd F17 D (.lst acc)) (.ref D) (.list ((d.A.map fun b => (φ b.1, σ b.2.1, φ b.2.2)).map encA)) := .lst (.inl (.inl upd_same)) (hacc.ex (Ex.new fD))
  have g017 := g016.trans gd17
  have fL17 := gd17.ff _ _ fL16
  have fM17 := gd17.ff _ _ fM16
  have fU17 := gd17.ff _ _ fU
  generalize upd F17 D (.lst acc) = F17' at gd17 at17 dA g017 fL17 fM17 fU17
  clear hDc fD g17 hacc hG w1 hxs hlen hD eA at16 g016 fL16 fM16 fU gd17
  refine ⟨_, rfl, seq_walk at17.hS (.inl rfl) at17.fh fun J xs G w1 hG hxs hlen D2 hD => ?_⟩
  refine lc_seqM (bs := d.S) (enc := .int) (f := fun z => .int (φ z)) w1 hxs at17.fh hG (by omega) (fun b y F1 H1 hb g1 hy => ?_) hD fun acc F18 H18 g18 fD hDc hacc => ?_
  · rw [dp_int] at hy
    subst hy
    exact turn1 rfl fun Yes h => ⟨_, rfl, _, rfl, L, _, rfl, .inl ⟨kvL, Sum.inl b, sees_d g1.fh (g1.ff _ _ fL17), rfl, (pval _ (inS b hb)).symm⟩, h _ _ _ (Gr.refl g1.fh) (.int _)⟩
  have eS' : (d.S.map fun z => PyData.int (φ z)) = (d.S.map φ).map eI := by rw [List.map_map]; rfl
  rw [eS'] at hacc
  refine ⟨Int, eI, d.S.map φ, D2, acc, F18, rfl, g18.fh, .inl (.inl hDc), hacc, alikeI _, sortableI _, fun b _ => by simp [PyData.depth], fun ys p19 hy hp19 => ?_⟩
  have ndS : (d.S.map φ).Nodup := List.pairwise_map.mpr ((nodup_asc ok.ok.srt).imp_of_mem fun ha hb h e => h (ren.pi _ _ (inS _ ha) (inS _ hb) e))
  have pwS := sortI_asc ndS
  have pmS : ((d.S.map φ).mergeSort (PySem.W.dataLe false eI)).Perm (d.S.map φ) := List.mergeSort_perm _ _
  generalize (d.S.map φ).mergeSort (PySem.W.dataLe false eI) = S19 at hy pwS pmS
  rw [dps_int] at hy
  subst hy
  have lS19 : S19.length ≤ 3 := by rw [pmS.length_eq, List.length_map]; exact lS
  have gd18 := (g18.done hD fD hDc).new (o := .lst (S19.map V.int)) hp19
  have at19 := at17.gr gd18
  have g019 := g017.trans gd18
  have dA19 := dA.ex gd18.ff
  have fL19 := gd18.ff _ _ fL17
  have fM19 := gd18.ff _ _ fM17
  have fU19 := gd18.ff _ _ fU17
  have dS19 : Dp K (upd (upd F18 D2 (.lst acc)) p19 (.lst (S19.map V.int))) (.ref p19) (.list (S19.map .int)) := .lst (.inl (.inl upd_same)) (dps_int.mpr rfl)
  generalize upd (upd F18 D2 (.lst acc)) p19 (.lst (S19.map V.int)) = F19 at gd18 at19 g019 dA19 fL19 fM19 fU19 dS19
  generalize upd H18 p19 (.lst (S19.map V.int)) = H19 at gd18 at19 g019 ⊢
  clear gd18 at17 g017 dA fL17 fM17 fU17 g18 hD fD hDc hp19 hacc hG w1 hxs hlen eS' ndS
  have sfact : ∀ z ∈ (["m", "z", "k", "f"] : List Str), isSound (.str z) = true ∧ z.length ≤ 1000 ∧ PyData.strOk z = true := by decide +kernel
  intro x dx hx hdx nex
  refine ⟨F19, x, dx, _, _, _, _, d.A.map fun b => (φ b.1, σ b.2.1, φ b.2.2), S19, rfl, upd_same, at19.fh.dm hx, make_sees at19.fh hx hdx nex, dA19, .inl rfl, dS19, .inl rfl, by rw [List.length_map]; omega, by omega, List.all_eq_true.mpr fun b hb => ?_, fun b hb => ?_, ?_, ?_, ?_, fun s' F20 H20 sA sS g20 fx20 hsp => ⟨rfl, ?_⟩⟩
  · obtain ⟨b', hb', rfl⟩ := List.mem_map.mp hb
    obtain ⟨q1, q2, q3⟩ := inP b' hb'
    obtain ⟨r1, r2⟩ := prng _ q1
    obtain ⟨r3, r4⟩ := prng _ q3
    simp [okArr, (sfact _ (srng _ q2)).1, isWithin, r1, r2, r3, r4]
  · obtain ⟨b', hb', rfl⟩ := List.mem_map.mp hb
    exact (sfact _ (srng _ (inP b' hb').2.1)).2
  · refine List.pairwise_map.mpr (ok.ok.nd.imp_of_mem fun {a b} ha hb h e => h ?_)
    obtain ⟨q1, q2, q3⟩ := inP a ha
    obtain ⟨q4, q5, q6⟩ := inP b hb
    injection e with e1 e2
    injection e2 with e2 e3
    exact Prod.ext (ren.pi _ _ q1 q4 e1) (Prod.ext (ren.si _ _ q2 q5 e2) (ren.pi _ _ q3 q6 e3))
  · refine (lot_of pwS fun z hz => ?_).1
    obtain ⟨y, hy, rfl⟩ := List.mem_map.mp (pmS.mem_iff.mp hz)
    exact prng _ (inS y hy)
  · intro e
    rw [e] at pmS
    exact ok.ok.ne (List.map_eq_nil_iff.mp (pmS.symm.eq_nil))
  have g20' := make_gr at19.fh hx hdx nex g20 fx20
  have at20 := at19.gr g20'
  have g020 := g019.trans g20'
  have fL20 := g20'.ff _ _ fL19
  have fM20 := g20'.ff _ _ fM19
  have fU20 := g20'.ff _ _ fU19
  generalize upd F20 x ((H20 x).getD (.own 0)) = F20' at g20' at20 g020 fL20 fM20 fU20 hsp
  have mS : ∀ z, z ∈ s'.S ↔ ∃ y, y ∈ d.S ∧ z = φ y := fun z => by
    rw [sS, pmS.mem_iff, List.mem_map]
    exact ⟨fun ⟨y, h1, h2⟩ => ⟨y, h1, h2.symm⟩, fun ⟨y, h1, h2⟩ => ⟨y, h1, h2.symm⟩⟩
  have ndS' : s'.S.Nodup := by rw [sS]; exact nodup_asc pwS
  clear at19 g019 dA19 fL19 fM19 fU19 dS19 g20' g20 fx20 hdx nex hx pwS pmS
  -- elsewhere
  have lk := tells_len at20.tl
  refine ⟨d.a, _, at20.ha, True.intro, fun od => ⟨_, rfl, d.a, od, rfl, .inl ⟨d.kvs, upd_same, fun D hD => ?_⟩⟩⟩
  have na : upd H20 d.a (.frz od (.dK d.kvs)) d.a = some (.frz od (.dK d.kvs)) := upd_same
  refine lc_st (B := []) (n := d.sounds.length) (by rw [← lk]; exact walk_keys) (sees_lock at20.fh at20.fa) (fun b hb => absurd hb (by simp)) (fun i acc F' H' => ∃ (as : List Addr) (kv' : List (Key × V)), acc = as.map V.ref ∧ Paired (fun (t : Addr) (q : Key × V) => F' t = some (.tup [kV q.1, q.2])) as kv' ∧ (kv'.map fun q : Key × V => q.1) = (d.sounds.take i).map (fun s => (Sum.inr (σ s) : Key)) ∧
      DpAll K F' (kv'.map fun q : Key × V => q.2) ((d.sounds.take i).map fun s => .list (((d.m s).map ν).map .str))) (fun _ _ _ _ _ _ h _ => h) (fun i acc F' H' _ g _ => g.at na) ⟨[], [], rfl, .nil, rfl, .nil⟩ (by omega) (fun i acc x' F' H' H'' hi hl gr ⟨as, kv', e1, e2, e3, e4⟩ y => ?_) hD fun acc F21 H21 g21 fD hDc ⟨as, kv', e1, e2, e3, e4⟩ => ?_
  · have hb : d.sounds[i]? = some d.sounds[i] := List.getElem?_eq_getElem hi
    generalize d.sounds[i] = b at hb
    obtain ⟨rfl, k, v, z1, rfl⟩ := y
    rw [tells_at at20.tl z1 hb]
    have bm : b ∈ d.sounds := List.mem_of_getElem? hb
    have tk : d.sounds.take (i + 1) = d.sounds.take i ++ [b] := by rw [List.take_add_one, hb]; rfl
    obtain ⟨v', v1, v2⟩ := at20.tl.va b bm
    refine ⟨F', Gr.refl gr.fh, true, turn1 rfl fun Yes h => ?_⟩
    refine ⟨_, rfl, _, rfl, M, _, rfl, .inl ⟨kvM, Sum.inr b, sees_d gr.fh (gr.ff _ _ fM20), rfl, (sval _ bm).symm⟩, ?_⟩
    refine ⟨_, rfl, _, rfl, d.a, v', rfl, .inl ⟨d.kvs, Sum.inr b, .inr ⟨od, gr.at na⟩, rfl, v1.symm⟩, seq_walk (v2.ex gr.ff) (.inl rfl) gr.fh fun J2 us G2 w2 hG2 hus hlen2 D2 hD2 => ?_⟩
    refine lc_seqM (bs := d.m b) (enc := .str) (f := fun z => .str (ν z)) w2 hus gr.fh hG2 (by have := (ok.ok.mks b bm).2.1; omega) (fun z y F1 H1 hz g1 hy => ?_) hD2 fun acc2 F3 H3 g3 fD2 hDc2 hacc2 => ?_
    · rw [dp_str] at hy
      subst hy
      exact turn1 rfl fun Yes2 h2 => ⟨_, rfl, _, rfl, U, _, rfl, .inl ⟨kvU, Sum.inr z, sees_d g1.fh (g1.ff _ _ (gr.ff _ _ fU20)), rfl, (nval z (ok.mks bm hz)).symm⟩, h2 _ _ _ (Gr.refl g1.fh) (.str _)⟩
    · have gd3 := g3.done hD2 fD2 hDc2
      refine ⟨by show 2 ≤ sizeLine; omega, fun T2 hT2 => ?_⟩
      have g4 := gd3.new (o := .tup [.str (σ b), .ref D2]) hT2
      have x4 := Ex.new (o := HO.tup [.str (σ b), .ref D2]) (gd3.fh.dm hT2)
      have eM : ((d.m b).map fun z => PyData.str (ν z)) = ((d.m b).map ν).map .str := by rw [List.map_map]; rfl
      rw [eM] at hacc2
      refine h _ _ _ g4 ⟨as ++ [T2], kv' ++ [(Sum.inr (σ b), .ref D2)], by rw [e1, List.map_append]; rfl, paired_snoc (paired_up (fun t _ q => g4.ff _ _ q) e2) upd_same, by rw [List.map_append, tk, List.map_append, e3]; rfl, ?_⟩
      rw [List.map_append, tk, List.map_append]
      exact (e4.ex g4.ff).append (.cons (.lst (.inl (.inl (x4 _ _ upd_same))) ((hacc2.ex (Ex.new fD2)).ex x4)) .nil)
  rw [List.take_length] at e3 e4
  have nDa : D ≠ d.a := ne_of hDc (g21.at na) (fun z => nomatch z)
  refine ⟨g21.at na, ?_⟩
  have gA := Gr.unlock at20.fa at20.ha g21
  have hD21 : upd H21 d.a (.dK d.kvs) D = some (.lst acc) := by rw [upd_ne nDa]; exact hDc
  have e2' := paired_up (R' := fun (t : Addr) (q : Key × V) => SqT K (upd H21 d.a (.dK d.kvs)) t [kV q.1, q.2]) (fun t q h => sees_t gA.fh (.inl (.inl h))) e2
  have at21 := at20.gr gA
  have g021 := g020.trans gA
  have fL21 := gA.ff _ _ fL20
  have fM21 := gA.ff _ _ fM20
  have fU21 := gA.ff _ _ fU20
  have sp21 := hsp.ex' gA.ff
  generalize upd H21 d.a (.dK d.kvs) = H21' at gA hD21 e2' at21 g021 ⊢
  clear g21 hDc nDa na hD lk at20 g020 fL20 fM20 fU20 hsp gA e2 fD
  refine ⟨D, as, kv', rfl, .inl (.inl (by rw [hD21, e1])), e2', fun W hW => ?_⟩
  have ndk' : (kv'.map fun q : Key × V => q.1).Nodup := by
    rw [e3]
    exact List.pairwise_map.mpr (snd.imp_of_mem fun ha hb h e => h (ren.si _ _ ha hb (Sum.inr.inj e)))
  rw [mergeK_nil ndk']
  have gW := (Gr.refl (B := []) at21.fh).new (o := .dK kv') hW
  have fW : upd F21 W (.dK kv') W = some (.dK kv') := upd_same
  have hW2 : upd H21' W (.dK kv') W = some (.dK kv') := upd_same
  have e4' := e4.ex gW.ff
  have at22 := at21.gr gW
  have g022 := g021.trans gW
  have fL22 := gW.ff _ _ fL21
  have fM22 := gW.ff _ _ fM21
  have fU22 := gW.ff _ _ fU21
  have sp22 := sp21.ex' gW.ff
  generalize upd H21' W (.dK kv') = H22 at gW hW2 at22 g022 ⊢
  generalize upd F21 W (.dK kv') = F22 at gW fW e4' at22 g022 fL22 fM22 fU22 sp22
  clear at21 g021 fL21 fM21 fU21 sp21 e4 hW hD21 e2' gW
  have tlW : Tells K F22 kv' (d.sounds.map σ) (mR d σ ν) .list := by
    refine ⟨by rw [show kv'.map (·.1) = _ from e3, List.map_map]; rfl, fun s hs => ?_⟩
    obtain ⟨b, hb, rfl⟩ := List.mem_map.mp hs
    obtain ⟨j, hj⟩ := List.mem_iff_getElem?.mp hb
    obtain ⟨v, z1, z2⟩ := e4'.getD (i := j) (d := .list (((d.m b).map ν).map .str)) (by rw [List.getElem?_map, hj]; rfl)
    have z3 := congrArg (fun l : List Key => l[j]?) e3
    simp only [List.getElem?_map, hj] at z3
    rw [List.getElem?_map] at z1
    obtain ⟨q, q1, q2⟩ := Option.map_eq_some_iff.mp z1
    rw [q1] at z3
    refine ⟨v, valV_at ndk' (i := j) ?_, by rw [mR_at ren hb]; exact z2⟩
    rw [q1]
    have z3 : q.1 = Sum.inr (σ b) := Option.some.inj z3
    rw [← z3, ← q2]
  have nfact : ∀ z ∈ (["x", "y+", "-", "zz", "a"] : List Str), z.length ≤ 1000 ∧ isHeard (.str z) = true := by decide +kernel
  have hfact : ∀ b ∈ d.sounds, ∀ z ∈ d.m b, (ν z).length ≤ 1000 ∧ isHeard (.str (ν z)) = true := fun b hb z hz => by
    rcases ok.mks hb hz with e | e
    · rw [e, n0]; decide +kernel
    · exact nfact _ (nrng z e)
  intro x2 dx2 hx2 hdx2 nex2
  refine ⟨F22, x2, dx2, W, kv', d.sounds.map σ, mR d σ ν, rfl, upd_same, at22.fh.dm hx2, make_sees at22.fh hx2 hdx2 nex2, fW, by rw [upd_ne (ne_of_none hW2 hx2), upd_ne (ne_of_none hW2 hdx2)]; exact hW2, tlW, fun e => ?_, by rw [List.length_map]; omega, List.pairwise_map.mpr (snd.imp_of_mem fun ha hb h e => h (ren.si _ _ ha hb e)), fun z hz => ?_, fun z hz => ?_, fun wd' F23 H23 wk wm g23 fx23 hwa => ⟨rfl, ?_⟩⟩
  · rw [List.map_eq_nil_iff.mp e] at s0
    exact absurd s0 (by simp)
  · obtain ⟨b, hb, rfl⟩ := List.mem_map.mp hz
    exact ⟨(sfact _ (srng b hb)).2.1, (sfact _ (srng b hb)).1⟩
  · obtain ⟨b, hb, rfl⟩ := List.mem_map.mp hz
    obtain ⟨m1, m6, mnd, mz⟩ := ok.ok.mks b hb
    rw [mR_at ren hb, List.length_map]
    refine ⟨m1, m6, fun y hy => ?_, List.pairwise_map.mpr (mnd.imp_of_mem fun ha hc h e => h (ren.ni _ _ (ok.mks hb ha) (ok.mks hb hc) e))⟩
    obtain ⟨k, hk, rfl⟩ := List.mem_map.mp hy
    exact hfact b hb k hk
  have g23' := make_gr at22.fh hx2 hdx2 nex2 g23 fx23
  have at23 := at22.gr g23'
  have g023 := g022.trans g23'
  have fL23 := g23'.ff _ _ fL22
  have fU23 := g23'.ff _ _ fU22
  have sp23 := sp22.ex' g23'.ff
  generalize upd F23 x2 ((H23 x2).getD (.own 0)) = F23' at g23' at23 g023 fL23 fU23 sp23 hwa
  clear at22 g022 fL22 fM22 fU22 sp22 g23' g23 fx23 hdx2 nex2 hx2 hW2 fW tlW e4'
  obtain ⟨bnd, hal, law⟩ := ren_law ok ren sp23.ok hwa.ok sA mS wk wm
  -- known
  have hrow23 := hrow.ex g023.ff
  have hh23 := hh.ex g023.ff
  refine ⟨_, rfl, _, rfl, _, rfl, seq_walk hrow23 (.inl rfl) at23.fh fun J xs G w1 hG hxs hlen D3 hD => ?_⟩
  refine lc_seqM (bs := row) (enc := .str) (f := fun k => .str (ν k)) w1 hxs at23.fh hG (by omega) (fun k y F1 H1 hk g1 hy => ?_) hD fun acc3 F24 H24 g24 fD hDc hacc => ?_
  · rw [dp_str] at hy
    subst hy
    exact turn1 rfl fun Yes h => ⟨_, rfl, _, rfl, U, _, rfl, .inl ⟨kvU, Sum.inr k, sees_d g1.fh (g1.ff _ _ fU23), rfl, (nval k (.inr (hre k hk))).symm⟩, h _ _ _ (Gr.refl g1.fh) (.str _)⟩
  have eR : (row.map fun k => PyData.str (ν k)) = (row.map ν).map .str := by rw [List.map_map]; rfl
  rw [eR] at hacc
  have gd24 := g24.done hD fD hDc
  have dR : Dp K (upd F24 D3 (.lst acc3)) (.ref D3) (.list ((row.map ν).map .str)) := .lst (.inl (.inl upd_same)) (hacc.ex (Ex.new fD))
  generalize upd F24 D3 (.lst acc3) = F24' at gd24 dR
  refine ⟨F24', x, x2, .ref D3, row.map ν, s', wd', rfl, gd24.fh, sp23.ex' gd24.ff, hwa.ex' gd24.ff, bnd, ndS', dR, fun k hk => ?_, fun r5 ns5 F25 H25 g25 hr5 pw5 mem5 => ?_⟩
  · obtain ⟨k0, hk0, rfl⟩ := List.mem_map.mp hk
    exact hal k0 (hre k0 hk0)
  have g2325 := gd24.trans g25
  refine ⟨_, rfl, seq_walk (hh23.ex g2325.ff) (.inr rfl) g25.fh fun J xs G w1 hG hxs hlen D6 hD6 => ?_⟩
  have hnp : ∀ z ∈ ns, z ∈ d.ps := fun z hz => Goes.within ok.win (fun y hy => ReachP.within ok.win inS hy) ((hhm z).mp hz)
  have ln7 := asc_le7 ok hhs hnp
  refine lc_seqM (bs := ns) (enc := .int) (f := fun z => .int (φ z)) w1 hxs g25.fh hG (by omega) (fun z y F1 H1 hz g1 hy => ?_) hD6 fun acc6 F26 H26 g26 fD6 hDc6 hacc6 => ?_
  · rw [dp_int] at hy
    subst hy
    exact turn1 rfl fun Yes h => ⟨_, rfl, _, rfl, L, _, rfl, .inl ⟨kvL, Sum.inl z, sees_d g1.fh (g1.ff _ _ (g2325.ff _ _ fL23)), rfl, (pval _ (hnp z hz)).symm⟩, h _ _ _ (Gr.refl g1.fh) (.int _)⟩
  have eN : (ns.map fun z => PyData.int (φ z)) = (ns.map φ).map eI := by rw [List.map_map]; rfl
  rw [eN] at hacc6
  refine ⟨Int, eI, ns.map φ, D6, acc6, F26, rfl, g26.fh, .inl (.inl hDc6), hacc6, alikeI _, sortableI _, fun b _ => by simp [PyData.depth], fun ys p7' hy hp7 => ?_⟩
  have pwN := sortI_asc (l := ns.map φ) (List.pairwise_map.mpr ((nodup_asc hhs).imp_of_mem fun ha hb h e => h (ren.pi _ _ (hnp _ ha) (hnp _ hb) e)))
  have pmN : ((ns.map φ).mergeSort (PySem.W.dataLe false eI)).Perm (ns.map φ) := List.mergeSort_perm _ _
  generalize (ns.map φ).mergeSort (PySem.W.dataLe false eI) = N7 at hy pwN pmN
  have g27 := g26.new (o := .lst ys) hp7
  refine tuple_dp (d := .list (N7.map .int)) (.lst (.inl (.inl upd_same)) (hy.ex (Ex.new (g26.fh.dm hp7)))) (.inl rfl) g27.fh fun r8 F28 H28 g28 hr8 => ?_
  have gF := g27.trans g28
  refine eq_ints (Dp.sees g28.fh (hr5.ex gF.ff)) (Dp.sees g28.fh hr8) ?_
  have eq : ns5 = N7 := asc_same pw5 pwN fun z => by
    rw [mem5 z, law row hre z, pmN.mem_iff, List.mem_map]
    exact exists_congr fun y => ⟨fun ⟨h1, h2⟩ => ⟨(hhm y).mpr h1, h2.symm⟩, fun ⟨h1, h2⟩ => ⟨(hhm y).mp h1, h2.symm⟩⟩
  rw [decide_eq_true eq]
  have gAll := (g023.trans g2325).trans gF
  exact q _ _ t11 gAll (at23.pe.gr (g2325.trans gF) (by simp)) (by omega) (by omega)
end
end TW
set_option Elab.async false
set_option linter.all false
set_option maxRecDepth 100000
set_option maxHeartbeats 16000000
/-! one drawn world: what is asked of the program -/
namespace TW
open PySem PySem.Spec PyProof.Rows L2 RZ StX
open Evl (Ex)
section
variable {P : Program} {w : World} {K : PySem.W.Frag} {mg : Str → Option Value} {base : Heap} {CS CW : Addr} {d : OneD} {p : Addr} {t : Int} {F H : Hp} {Q : VK}
/-- silent, asked -/
theorem ask_silent (a : OneAt K CS CW F H p t d) (o : OneOk d) {v : V} {e : PyData} {l : List Int} (hv : Dp K F v e) (he : e = .list (l.map .int) ∨ e = .tuple (l.map .int)) (hs : l.Pairwise (· < ·)) (hp : ∀ z ∈ l, z ∈ d.ps)
    (q : ∀ (r : V) (ns : List Int) F' H', Gr [] F H F' H' → Dp K F' r (.tuple (ns.map .int)) → ns.Pairwise (· < ·) → (∀ z, z ∈ ns ↔ ReachP (trip d.m d.A) (· ∈ l) z) → Q r H') : spSilent K CS CW [.ref d.sx, .ref d.wx, v] H Q E0 := by
  have l7 := asc_le7 o hs hp
  refine ⟨F, d.sx, d.wx, v, e, l, d.s, d.wd, rfl, a.fh, a.sp, a.wa, o.bnd, hv, he, ?_, nodup_asc hs, by omega, by rw [o.P]; exact hp, fun r ns F' H' g hr pw mem => q r ns F' H' g hr pw fun z => (mem z).trans (ReachP.same o.R (fun _ => Iff.rfl) z)⟩
  rcases he with rfl | rfl
  · exact (o.lot hs hp).1
  · exact (o.lot hs hp).2
/-- after, asked -/
theorem ask_after (a : OneAt K CS CW F H p t d) (o : OneOk d) {v : V} {e : PyData} {l : List Int} {k : Str} (hv : Dp K F v e) (he : e = .list (l.map .int) ∨ e = .tuple (l.map .int)) (hs : l.Pairwise (· < ·)) (hp : ∀ z ∈ l, z ∈ d.ps) (hk : k ∈ d.es)
    (q : ∀ (r : V) (ns : List Int) F' H', Gr [] F H F' H' → Dp K F' r (.tuple (ns.map .int)) → ns.Pairwise (· < ·) → (∀ z, z ∈ ns ↔ Beh (trip d.m d.A) k (· ∈ l) z) → Q r H') : spAfter K CS CW [.ref d.sx, .ref d.wx, v, .str k] H Q E0 := by
  have l7 := asc_le7 o hs hp
  refine ⟨F, d.sx, d.wx, v, k, e, l, d.s, d.wd, rfl, a.fh, a.sp, a.wa, o.bnd, hv, he, ?_, by omega, by rw [o.P]; exact hp, (o.all k).mpr hk, fun r ns F' H' g hr pw mem => q r ns F' H' g hr pw fun z => (mem z).trans (Beh.same o.R (fun _ => Iff.rfl) z)⟩
  rcases he with rfl | rfl
  · exact (o.lot hs hp).1
  · exact (o.lot hs hp).2
/-- known, asked -/
theorem ask_known (a : OneAt K CS CW F H p t d) (o : OneOk d) {v : V} {row : List Str} (hv : Dp K F v (.list (row.map .str))) (hk : ∀ k ∈ row, k ∈ d.es)
    (q : ∀ (r : V) (ns : List Int) F' H', Gr [] F H F' H' → Dp K F' r (.tuple (ns.map .int)) → ns.Pairwise (· < ·) → (∀ z, z ∈ ns ↔ Goes (trip d.m d.A) (ReachP (trip d.m d.A) (· ∈ d.S)) row z) → Q r H') : spKnown K CS CW [.ref d.sx, .ref d.wx, v] H Q E0 :=
  ⟨F, d.sx, d.wx, v, row, d.s, d.wd, rfl, a.fh, a.sp, a.wa, o.bnd, by rw [o.sS]; exact nodup_asc o.ok.srt, hv, fun k h => (o.all k).mpr (hk k h), fun r ns F' H' g hr pw mem => q r ns F' H' g hr pw fun z => by
    rw [mem z, o.sS]
    exact Goes.same o.R (fun y => ReachP.same o.R (fun _ => Iff.rfl) y) z⟩
/-- the law's own closing, behind -/
theorem ask_closed (a : OneAt K CS CW F H p t d) (o : OneOk d) {v : V} {e : PyData} {l : List Int} (hv : Dp K F v e) (he : isSeq e (l.map .int)) (hl : l.length ≤ 1000)
    (q : ∀ (r : V) (ns : List Int) F' H', Gr [] F H F' H' → Dp K F' r (.tuple (ns.map .int)) → ns.Pairwise (· < ·) → (∀ z, z ∈ ns ↔ ReachP (trip d.m d.A) (· ∈ l) z) → Q r H') : spLClosed K [d.va, .ref d.a, v] H Q E0 :=
  ⟨F, d.va, v, d.a, e, d.kvs, d.sounds, d.m, d.A, l, rfl, a.fh, a.hA, a.fa, a.tl, fun b hb => (o.ok.ar b hb).2.2.1, hv, he, by have := o.ok.len; omega, hl, fun r ns F' H' pw mem hr g => q r ns F' H' g hr pw mem⟩
theorem ask_behind (a : OneAt K CS CW F H p t d) (o : OneOk d) {v : V} {e : PyData} {l : List Int} {k : Str} (hv : Dp K F v e) (he : isSeq e (l.map .int)) (hl : l.length ≤ 1000)
    (q : ∀ (r : V) (ns : List Int) F' H', Gr [] F H F' H' → Dp K F' r (.tuple (ns.map .int)) → ns.Pairwise (· < ·) → (∀ z, z ∈ ns ↔ Beh (trip d.m d.A) k (· ∈ l) z) → Q r H') : spLBehind K [d.va, .ref d.a, v, .str k] H Q E0 :=
  ⟨F, d.va, v, k, d.a, e, d.kvs, d.sounds, d.m, d.A, l, rfl, a.fh, a.hA, a.fa, a.tl, fun b hb => (o.ok.ar b hb).2.2.1, hv, he, by have := o.ok.len; omega, hl, fun r ns F' H' pw mem hr g => q r ns F' H' g hr pw mem⟩
/-- two lots that are the same: not unlike -/
theorem ne_same {l m : List Int} {x y : V} {H : Hp} {Q : VK} (hx : Dp K H x (.tuple (l.map .int))) (hy : Dp K H y (.tuple (m.map .int))) (pl : l.Pairwise (· < ·)) (pm : m.Pairwise (· < ·)) (h : ∀ z, z ∈ l ↔ z ∈ m) (q : Q (.bl false) H) : rNeDD K x y H Q :=
  ne_ints hx hy (by rw [decide_eq_true (asc_same pl pm h)]; exact q)
end
/-- t + u of told places -/
theorem catA_dp {K : PySem.W.Frag} {F H : Hp} {x y : V} {l m : List Int} {Q : VK} (fh : Sees F H) (hx : Dp K F x (.tuple (l.map .int))) (hy : Dp K F y (.tuple (m.map .int))) (hl : l.length + m.length ≤ sizeLine) (q : ∀ r F' H', Gr [] F H F' H' → SqT K H' r ((l ++ m).map V.int) → Q (.ref r) H') : rCatA K x y H Q := by
  obtain ⟨a, xs, rfl, ha, hxs⟩ := dp_tup hx
  obtain ⟨b, ys, rfl, hb, hys⟩ := dp_tup hy
  rw [dps_int] at hxs hys
  subst hxs; subst hys
  refine ⟨a, b, _, _, rfl, rfl, sees_t fh ha, sees_t fh hb, by rw [List.length_map, List.length_map]; exact hl, fun e => ?_, fun _ e => ?_, fun _ _ p hp => ?_⟩
  · have e := List.map_eq_nil_iff.mp e
    subst e
    exact q b F H (Gr.refl fh) (sees_t fh hb)
  · have e := List.map_eq_nil_iff.mp e
    subst e
    rw [List.append_nil] at q
    exact q a F H (Gr.refl fh) (sees_t fh ha)
  · rw [List.map_append] at q
    exact q p _ _ ((Gr.refl fh).new hp) (.inl (.inl upd_same))
theorem ite_val {b : Bool} {A : Int → Prop} {x y : Int} (h : ∀ z, z = x ∨ z = y → A z) : if b = true then A x else A y := by
  cases b
  · exact iteF (h y (.inr rfl))
  · exact iteT (h x (.inl rfl))
theorem cutD_init (ds : List PyData) (e : PyData) : cutD (ds ++ [e]) none (some (-1)) = ds := by
  unfold cutD
  have h : HT.sIx (ds ++ [e]).length (ds ++ [e]).length (some (-1)) = ds.length := by
    show (if (-1 : Int) < 0 then ((-1 : Int) + ((ds ++ [e]).length : Int)).toNat else min (-1 : Int).toNat (ds ++ [e]).length) = _
    rw [if_pos (by decide), List.length_append, List.length_singleton]
    omega
  rw [h, HT.sIx_none, List.drop_zero, Nat.sub_zero, List.take_left]
section
variable {P : Program} {w : World} {K : PySem.W.Frag} {mg : Str → Option Value} {base : Heap}
theorem one_b {CS CW f : Addr} {cdv : Value} {A : Around} {outer : List Env} {s : Shared} {H : Hp} {Q : VK} {E : XK} (T : Txt mg) (hr : Room 8 (A.deeper (envOfC "_law_one_right" (defScope s__law_one_right) s.heap.objs.size f cdv)))
    (C__law_pick : Cal P w K mg base "_law_pick" 2 ["pen", "some"] [] (spPick K)) (C__law_shuffled : Cal P w K mg base "_law_shuffled" 2 ["pen", "some"] [] (spShuf K))
    (C__law_closed : Cal P w K mg base "_law_closed" 1 ["arrows", "marks", "places"] [] (spLClosed K)) (C__law_behind : Cal P w K mg base "_law_behind" 2 ["arrows", "marks", "places", "mark"] [] (spLBehind K))
    (M_Speech : Mkr P w K mg base "Speech" CS 4 ["self", "arrows", "starts"] (spSpI K CS)) (M_Wall : Mkr P w K mg base "Wall" CW 4 ["self", "marks"] (spWaI K CW))
    (C_silent : Cal P w K mg base "silent" 5 ["speech", "wall", "places"] [] (spSilent K CS CW)) (CB_silent : CalB P w K mg base "silent" 5 ["speech", "wall", "places"] ["places", "wall", "speech"] (spSilent K CS CW))
    (C_after : Cal P w K mg base "after" 5 ["speech", "wall", "places", "mark"] [] (spAfter K CS CW)) (CB_after : CalB P w K mg base "after" 5 ["speech", "wall", "places", "mark"] ["mark", "places", "wall", "speech"] (spAfter K CS CW))
    (C_known : Cal P w K mg base "known" 4 ["speech", "wall", "row"] [] (spKnown K CS CW)) :
    ∃ t2, PSs (cxOf CX0 P w K mg base sc__law_one_rightN "_law_one_right" (defScope s__law_one_right) f cdv A outer s H E).nox ((defBody s__law_one_right).drop 3) t2 ∧
      ∀ (F H1 : Hp) (p : Addr) (t : Int) (d : OneD) (L1 L2 : Addr) (one other : List Int), OneAt K CS CW F H1 p t d → OneOk d → t + 200 ≤ 1000000 → F L1 = some (.lst (one.map V.int)) → F L2 = some (.lst (other.map V.int)) → one.Sublist d.ps → other.Sublist d.ps →
        (∀ F' H' t', Gr [p] F H1 F' H' → PenAt K F' H' p t' → t ≤ t' → t' ≤ t + 200 → Q (.bl true) H') →
        t2 { nx := fun _ H' => Q .non H', rt := Q } [some (.ref p), some d.va, some d.vst, some (.ref d.a), some (.ref d.sx), some (.ref d.wx), some d.pl, some d.ev, some (.ref L1), some (.ref L2), none, none, none, none, none, none, none, none, none, none, none, none, none, none, none, none, none] H1 := by
  have hu := hu_of hr
  have hu8 := hu8_of hr
  have hu16 := hu16_of hr
  have hu64 := hr.units
  have lz : 100000 < sizeLine := by rw [sizeLine_eq]; decide
  obtain ⟨tD, PD, hD⟩ := one_d (Q := Q) (E := E) (H := H) (s := s) (outer := outer) (cdv := cdv) (A := A) (f := f) (CS := CS) (CW := CW) T hr C__law_shuffled M_Speech M_Wall C_known
  refine ⟨_, (pss_cons (ps_if (PW.pt (pw_or (pt_cmpR (op_neDD K hu64) (pe_cal C_silent (hr.mono (by decide)) (pa_cons (pv 4) (pa_cons (pv 5) (pa_cons (pv 8) pa_nil)))) (pe_cal C__law_closed (hr.mono (by decide)) (pa_cons (pv 1) (pa_cons (pv 3) (pa_cons (pv 8) pa_nil)))) (nomark _)) (pw_or1 (pt_cmpR (op_neDD K hu64) (pe_calB CB_silent (hr.mono (by decide)) (pk_cons (pe_callTy (cr_tuple K) (by rfl) T.tuple bt_tuple (pa_cons (pv 9) pa_nil)) (pk_cons (pv 5) (pk_cons (pv 4) pk_nil)))) (pe_cal C__law_closed (hr.mono (by decide)) (pa_cons (pv 1) (pa_cons (pv 3) (pa_cons (pv 9) pa_nil)))) (nomark _)))))
        (pss_one (ps_ret pe_bl))
        pss_nil)
      (pss_cons (ps_for PassesOwn.never rfl (zseq K (pv 7)) (zg (i := 10) sc__law_one_right.nd)
        (pss_cons (zpar (i := 11) (j := 12) sc__law_one_right.nd (pa_cons (pe_cal C_after (hr.mono (by decide)) (pa_cons (pv 4) (pa_cons (pv 5) (pa_cons (pv 8) (pa_cons (pv 10) pa_nil))))) (pa_cons (pe_calB CB_after (hr.mono (by decide)) (pk_cons (pv 10) (pk_cons (pe_callTy (cr_tuple K) (by rfl) T.tuple bt_tuple (pa_cons (pv 9) pa_nil)) (pk_cons (pv 5) (pk_cons (pv 4) pk_nil))))) pa_nil)))
        (pss_cons (ps_if (PW.pt (pw_or (pt_cmpR (op_neDD K hu64) (pv 11) (pe_cal C__law_behind (hr.mono (by decide)) (pa_cons (pv 1) (pa_cons (pv 3) (pa_cons (pv 8) (pa_cons (pv 10) pa_nil))))) (nomark _)) (pw_or1 (pt_cmpR (op_neDD K hu64) (pv 12) (pe_cal C__law_behind (hr.mono (by decide)) (pa_cons (pv 1) (pa_cons (pv 3) (pa_cons (pv 9) (pa_cons (pv 10) pa_nil))))) (nomark _)))))
          (pss_one (ps_ret pe_bl))
          pss_nil)
        (pss_one (ps_if (pt_cmpR (op_neDD K hu64) (pe_cal C_after (hr.mono (by decide)) (pa_cons (pv 4) (pa_cons (pv 5) (pa_cons (pe_callB (cr_sortedKI w hu8) (by rfl) T.sorted bt_sorted (pa_cons (pe_callTy (cr_setK K w) (by rfl) T.set bt_set (pa_cons (pe_op op_cat (pv 8) (pv 9)) pa_nil)) pa_nil)) (pa_cons (pv 10) pa_nil))))) (pe_callTy (cr_tuple K) (by rfl) T.tuple bt_tuple (pa_cons (pe_callB (cr_sortedKI w hu8) (by rfl) T.sorted bt_sorted (pa_cons (pe_callTy (cr_setK K w) (by rfl) T.set bt_set (pa_cons (pe_op op_catA (pv 11) (pv 12)) pa_nil)) pa_nil)) pa_nil)) (nomark _))
          (pss_one (ps_ret pe_bl))
          pss_nil)))))
      (pss_cons (ps_asg (pe_tup (pa_cons (pe_lst pa_nil) (pa_cons (pe_cal C__law_closed (hr.mono (by decide)) (pa_cons (pv 1) (pa_cons (pv 3) (pa_cons (pv 2) pa_nil)))) pa_nil))) (zpg (n := 2) K (pgs_cons (zg (i := 13) sc__law_one_right.nd) (pgs_cons (zg (i := 14) sc__law_one_right.nd) pgs_nil))))
      (pss_cons (ps_for PassesOwn.never rfl (pi_range1 rfl T.range (pa_cons (pe_ifExp (pt_cmpR (op_neDD K hu64) (pv 7) (pe_lst pa_nil) (nomark _)) pe_int pe_int) pa_nil)) (zg (i := 15) sc__law_one_right.nd)
        (pss_cons (ps_setLc (i := 16) (own := [("mark", 10)]) rfl sc__law_one_right.nd rfl rfl (sw_true rfl rfl rfl (by decide +kernel)) (zseq K (pv 7)) (blkOk_by (N := sc__law_one_rightN) (sc := defScope s__law_one_right) (by decide +kernel)) (fun _ _ _ _ _ => (zg (i := 10) sc__law_one_right.nd)) (fun _ _ _ _ _ => (pts_one (pt_cmpR (op_neDD K hu64) (pe_cal C__law_behind (hr.mono (by decide)) (pa_cons (pv 1) (pa_cons (pv 3) (pa_cons (pv 14) (pa_cons (pv 10) pa_nil))))) (pe_tup pa_nil) (nomark _)))) (fun _ _ _ _ _ => (pv 10)))
        (pss_one (ps_if (pt_cmpR (op_neDD K hu64) (pv 16) (pe_lst pa_nil) (nomark _))
          (pss_cons (zs (i := 10) sc__law_one_right.nd (pe_cal C__law_pick (hr.mono (by decide)) (pa_cons (pv 0) (pa_cons (pv 16) pa_nil))))
          (pss_one (ps_asg (pe_tup (pa_cons (pe_op op_cat (pv 13) (pe_lst (pa_cons (pv 10) pa_nil))) (pa_cons (pe_cal C__law_behind (hr.mono (by decide)) (pa_cons (pv 1) (pa_cons (pv 3) (pa_cons (pv 14) (pa_cons (pv 10) pa_nil))))) pa_nil))) (zpg (n := 2) K (pgs_cons (zg (i := 13) sc__law_one_right.nd) (pgs_cons (zg (i := 14) sc__law_one_right.nd) pgs_nil))))))
          pss_nil))))
      (pss_cons (ps_if (PW.pt (pw_or (pt_cmpR (op_neDD K hu64) (pe_cal C_known (hr.mono (by decide)) (pa_cons (pv 4) (pa_cons (pv 5) (pa_cons (pv 13) pa_nil)))) (pv 14) (nomark _)) (pw_or1 (PW.pt (pw_and (pt_cmpR (op_neDD K hu64) (pv 13) (pe_lst pa_nil) (nomark _)) (pw_and1 (pt_cmpR (op_neDD K hu64) (pe_cal C_after (hr.mono (by decide)) (pa_cons (pv 4) (pa_cons (pv 5) (pa_cons (pe_cal C_known (hr.mono (by decide)) (pa_cons (pv 4) (pa_cons (pv 5) (pa_cons (pe_slice (sl_LA K) (pv 13) po_none (po_some (pe_un un_neg pe_int))) pa_nil)))) (pa_cons (pe_ix (ix_LT K) (pv 13) (pe_un un_neg pe_int) (fun _ _ => rfl)) pa_nil))))) (pv 14) (nomark _))))))))
        (pss_one (ps_ret pe_bl))
        pss_nil)
      PD))))), ?_⟩
  intro F H1 p t d L1 L2 one other at1 ok ht h1 h2 s1 s2 q
  have p1 : one.Pairwise (· < ·) := ok.pp.sublist s1
  have p2 : other.Pairwise (· < ·) := ok.pp.sublist s2
  have m1 : ∀ z ∈ one, z ∈ d.ps := fun z hz => s1.subset hz
  have m2 : ∀ z ∈ other, z ∈ d.ps := fun z hz => s2.subset hz
  have l1 := asc_le7 ok p1 m1
  have l2 := asc_le7 ok p2 m2
  have d1 : Dp K F (.ref L1) (.list (one.map .int)) := .lst (.inl (.inl h1)) (dps_int.mpr rfl)
  have d2 : Dp K F (.ref L2) (.list (other.map .int)) := .lst (.inl (.inl h2)) (dps_int.mpr rfl)
  refine ⟨_, rfl, _, rfl, _, rfl, ask_silent at1 ok d1 (.inl rfl) p1 m1 fun r2 n2 F2 H2 g2 hr2 pw2 mem2 => ?_⟩
  have at2 := at1.gr g2
  refine ⟨_, rfl, _, rfl, _, rfl, ask_closed at2 ok (d1.ex g2.ff) (.inl rfl) (by omega) fun r3 n3 F3 H3 g3 hr3 pw3 mem3 => ?_⟩
  have at3 := at2.gr g3
  refine ne_same (Dp.sees g3.fh (hr2.ex g3.ff)) (Dp.sees g3.fh hr3) pw2 pw3 (fun z => (mem2 z).trans (mem3 z).symm) ⟨_, rfl, iteF ?_⟩
  refine ⟨_, rfl, tuple_dp ((d2.ex g2.ff).ex g3.ff) (.inl rfl) g3.fh fun r4 F4 H4 g4 hr4 => ⟨_, rfl, _, rfl, ?_⟩⟩
  have at4 := at3.gr g4
  refine ask_silent at4 ok hr4 (.inr rfl) p2 m2 fun r5 n5 F5 H5 g5 hr5 pw5 mem5 => ?_
  have at5 := at4.gr g5
  have g05 := ((g2.trans g3).trans g4).trans g5
  refine ⟨_, rfl, _, rfl, _, rfl, ask_closed at5 ok (d2.ex g05.ff) (.inl rfl) (by omega) fun r6 n6 F6 H6 g6 hr6 pw6 mem6 => ?_⟩
  have at6 := at5.gr g6
  have g06 := g05.trans g6
  refine ne_same (Dp.sees g6.fh (hr5.ex g6.ff)) (Dp.sees g6.fh hr6) pw5 pw6 (fun z => (mem5 z).trans (mem6 z).symm) ⟨_, rfl, iteF ?_⟩
  have d1b := d1.ex g06.ff
  have d2b := d2.ex g06.ff
  have h1b := g06.ff _ _ h1
  have h2b := g06.ff _ _ h2
  clear at2 at3 at4 at5 g2 g3 g4 g5 g6 g05 hr2 hr3 hr4 hr5 hr6 pw2 pw3 pw5 pw6 mem2 mem3 mem5 mem6 d1 d2 h1 h2
  -- each mark
  refine ⟨_, rfl, seq_walk at6.hE (.inl rfl) at6.fh fun J xs G w1 hG hxs hlen => ?_⟩
  refine for_it w1 (fun i σ' H' => ∃ (o10 o11 o12 : Option V) (F' : Hp), σ' = [some (.ref p), some d.va, some d.vst, some (.ref d.a), some (.ref d.sx), some (.ref d.wx), some d.pl, some d.ev, some (.ref L1), some (.ref L2), o10, o11, o12, none, none, none, none, none, none, none, none, none, none, none, none, none, none] ∧ Gr [] F6 H6 F' H')
    ⟨none, none, none, F6, rfl, Gr.refl at6.fh⟩ (fun i σ' H' _ ⟨_, _, _, F', _, g⟩ => hG H' (sees_gr g)) ?_ ?_
  · rintro i y σ' H' H'' hi ⟨o10, o11, o12, F', rfl, g⟩ ⟨rfl, hyi⟩
    obtain ⟨e, k1, k2⟩ := hxs.get hyi
    rw [List.getElem?_map] at k1
    obtain ⟨k, hk0, rfl⟩ := Option.map_eq_some_iff.mp k1
    rw [dp_str] at k2
    subst k2
    have hk : k ∈ d.es := List.mem_of_getElem? hk0
    have at7 := at6.gr g
    refine ⟨_, rfl, _, rfl, _, rfl, _, rfl, ask_after at7 ok (d1b.ex g.ff) (.inl rfl) p1 m1 hk fun r8 n8 F8 H8 g8 hr8 pw8 mem8 => ?_⟩
    have at8 := at7.gr g8
    refine ⟨_, rfl, _, rfl, tuple_dp ((d2b.ex g.ff).ex g8.ff) (.inl rfl) g8.fh fun r9 F9 H9 g9 hr9 => ⟨_, rfl, _, rfl, ?_⟩⟩
    have at9 := at8.gr g9
    refine ask_after at9 ok hr9 (.inr rfl) p2 m2 hk fun r10 n10 F10 H10 g10 hr10 pw10 mem10 => ⟨_, _, rfl, ?_⟩
    have at10 := at9.gr g10
    have g810 := g9.trans g10
    have gx := (g.trans g8).trans g810
    refine ⟨_, rfl, _, rfl, _, rfl, _, rfl, _, rfl, ask_behind at10 ok (d1b.ex gx.ff) (.inl rfl) (by omega) fun r11 n11 F11 H11 g11 hr11 pw11 mem11 => ?_⟩
    have at11 := at10.gr g11
    refine ne_same (Dp.sees g11.fh ((hr8.ex g810.ff).ex g11.ff)) (Dp.sees g11.fh hr11) pw8 pw11 (fun z => (mem8 z).trans (mem11 z).symm) ⟨_, rfl, iteF ?_⟩
    refine ⟨_, rfl, _, rfl, _, rfl, _, rfl, _, rfl, ask_behind at11 ok ((d2b.ex gx.ff).ex g11.ff) (.inl rfl) (by omega) fun r12 n12 F12 H12 g12 hr12 pw12 mem12 => ?_⟩
    have at12 := at11.gr g12
    refine ne_same (Dp.sees g12.fh ((hr10.ex g11.ff).ex g12.ff)) (Dp.sees g12.fh hr12) pw10 pw12 (fun z => (mem10 z).trans (mem12 z).symm) ⟨_, rfl, iteF ?_⟩
    have gy := (gx.trans g11).trans g12
    have g812 := (g810.trans g11).trans g12
    have hr8' := hr8.ex g812.ff
    have hr10' := (hr10.ex g11.ff).ex g12.ff
    have h1c := gy.ff _ _ h1b
    have h2c := gy.ff _ _ h2b
    have n8p : ∀ z ∈ n8, z ∈ d.ps := fun z hz => Beh.within ok.win ((mem8 z).mp hz)
    have n10p : ∀ z ∈ n10, z ∈ d.ps := fun z hz => Beh.within ok.win ((mem10 z).mp hz)
    have n8l := asc_le7 ok pw8 n8p
    have n10l := asc_le7 ok pw10 n10p
    -- the union
    refine ⟨_, rfl, _, rfl, _, rfl, _, rfl, L1, L2, _, _, rfl, rfl, sees_lst at12.fh h1c, sees_lst at12.fh h2c, by simp; omega, fun N hN => ?_⟩
    have ga := (Gr.refl (B := []) at12.fh).newM (o := .lst (one.map V.int ++ other.map V.int)) hN
    refine ⟨N, (one ++ other).map Sum.inl, rfl, .inl (by rw [keys_int, List.map_append]; exact .inl (.inl upd_same)), by simp; omega, fun q1 n hq1 hn hex => ?_⟩
    have gb := ga.newM (o := SKO w q1 ((one ++ other).map Sum.inl) n) hq1
    refine ⟨q1, one ++ other, n, rfl, upd_same, fun U p4 srtU memU lenU hp4 => ?_⟩
    have gc := gb.new (o := .lst (U.map V.int)) hp4
    have at13 := at12.gr gc
    have Up : ∀ z ∈ U, z ∈ d.ps := fun z hz => (List.mem_append.mp ((memU z).mp hz)).elim (m1 z) (m2 z)
    refine ⟨_, rfl, ask_after at13 ok (.lst (.inl (.inl upd_same)) (dps_int.mpr rfl)) (.inl rfl) srtU Up hk fun r14 n14 F14 H14 g14 hr14 pw14 mem14 => ?_⟩
    have at14 := at13.gr g14
    have gd := gc.trans g14
    refine ⟨_, rfl, _, rfl, catA_dp at14.fh (hr8'.ex gd.ff) (hr10'.ex gd.ff) (by omega) fun r15 F15 H15 g15 h15 => ?_⟩
    refine ⟨r15, (n8 ++ n10).map Sum.inl, rfl, .inr (by rw [keys_int]; exact h15), by simp; omega, fun q2 n2 hq2 hn2 hex2 => ?_⟩
    have ge := g15.newM (o := SKO w q2 ((n8 ++ n10).map Sum.inl) n2) hq2
    refine ⟨q2, n8 ++ n10, n2, rfl, upd_same, fun W p5 srtW memW lenW hp5 => ?_⟩
    have gf := ge.new (o := .lst (W.map V.int)) hp5
    refine tuple_dp (d := .list (W.map .int)) (.lst (.inl (.inl upd_same)) (dps_int.mpr rfl)) (.inl rfl) gf.fh fun r16 F16 H16 g16 hr16 => ?_
    have gz := gf.trans g16
    refine ne_same (Dp.sees g16.fh (hr14.ex gz.ff)) (Dp.sees g16.fh hr16) pw14 srtW (fun z => ?_) ⟨_, rfl, iteF ?_⟩
    · rw [mem14 z, memW z, List.mem_append, mem8 z, mem10 z, ← Beh.or]
      exact Beh.congr (fun y => by rw [memU y, List.mem_append]) z
    · exact ⟨_, _, _, F16, rfl, (gy.trans gd).trans gz⟩
  rintro σ' H7 ⟨o10, o11, o12, F7, rfl, g7⟩
  have at7 := at6.gr g7
  have g07 := g06.trans g7
  clear hG w1 hxs hlen at6 g06 d1b d2b h1b h2b g7
  classical
  obtain ⟨snd, s0, s3, sne, sOk⟩ := PlainOk.facts ok.ok.so
  have eOk : ∀ z ∈ d.es, PyData.strOk z = true := fun z hz => by
    obtain ⟨z0, k, hk, hz⟩ := (ok.em z).mp hz
    exact (sOk z (((ok.ok.mks k hk).2.2.2 z hz).resolve_left z0)).1
  have e3 := ok.e3
  have lS := ok.ok.sl
  -- row, here
  refine ⟨Nat.zero_le _, fun L0 hL0 => ?_⟩
  have g8 := (Gr.refl (B := []) at7.fh).new (o := .lst []) hL0
  have at8 := at7.gr g8
  have f8 : upd F7 L0 (.lst []) L0 = some (.lst (([] : List Str).map V.str)) := upd_same
  generalize upd H7 L0 (.lst []) = H8 at g8 at8 ⊢
  generalize upd F7 L0 (.lst []) = F8 at g8 at8 f8
  refine ⟨_, rfl, _, rfl, _, rfl, ask_closed at8 ok at8.hS (.inl rfl) (by omega) fun r9 n9 F9 H9 g9 hr9 pw9 mem9 => ⟨by show 2 ≤ sizeLine; omega, fun T9 hT9 => ?_⟩⟩
  have g10 := g9.new (o := .tup [.ref L0, r9]) hT9
  have at10 := at8.gr g10
  refine ⟨T9, [.ref L0, r9], rfl, .inl (.inl upd_same), rfl, _, _, rfl, _, _, rfl, rfl, ?_⟩
  have f10 := g10.ff _ _ f8
  have hr10 := hr9.ex (Ex.new (o := HO.tup [.ref L0, r9]) (g9.fh.dm hT9))
  generalize upd H9 T9 (.tup [.ref L0, r9]) = H10 at g10 at10 ⊢
  generalize upd F9 T9 (.tup [.ref L0, r9]) = F10 at g10 at10 f10 hr10
  refine ⟨_, rfl, Nat.zero_le _, fun l hl => ?_⟩
  have g11 := (Gr.refl (B := []) at10.fh).new (o := .lst []) hl
  have at11 := at10.gr g11
  refine ne_nil eOk (Dp.sees g11.fh at11.hE) upd_same ⟨_, rfl, ite_val (A := fun z => tC (.int z) _ _ _) fun z hz => ⟨_, rfl, by omega, by omega, ?_⟩⟩
  have f11 := g11.ff _ _ f10
  have hr11 := hr10.ex g11.ff
  have gc := ((g07.trans g8).trans g10).trans g11
  generalize upd H10 l (.lst []) = Hc at g11 at11 gc ⊢
  generalize upd F10 l (.lst []) = Fc at g11 at11 f11 hr11 gc
  have z40 : z.toNat ≤ 40 := by omega
  clear g8 at8 f8 g9 g10 at10 f10 hr9 hr10 g11 hl hT9 hL0 at7 g07
  refine for_it walk_range (fun i σ' H' => ∃ (o10 o15 o16 : Option V) (F' : Hp) (t' : Int) (Lr : Addr) (row : List Str) (vh : V) (ns : List Int), σ' = [some (.ref p), some d.va, some d.vst, some (.ref d.a), some (.ref d.sx), some (.ref d.wx), some d.pl, some d.ev, some (.ref L1), some (.ref L2), o10, o11, o12, some (.ref Lr), some vh, o15, o16, none, none, none, none, none, none, none, none, none, none] ∧ Gr [p] Fc Hc F' H' ∧ PenAt K F' H' p t' ∧ t ≤ t' ∧ t' ≤ t + i ∧
      F' Lr = some (.lst (row.map V.str)) ∧ (∀ k ∈ row, k ∈ d.es) ∧ row.length ≤ i ∧ Dp K F' vh (.tuple (ns.map .int)) ∧ ns.Pairwise (· < ·) ∧ ∀ y, y ∈ ns ↔ Goes (trip d.m d.A) (ReachP (trip d.m d.A) (· ∈ d.S)) row y)
    ⟨o10, none, none, Fc, t, L0, [], r9, n9, rfl, Gr.refl at11.fh, at11.pe, Int.le_refl _, by omega, f11, by simp, Nat.zero_le _, hr11, pw9, mem9⟩ (fun _ _ _ _ _ => True.intro) ?_ ?_
  · rintro i y σ' H' H'' hi ⟨o10, o15, o16, F', t', Lr, row, vh, ns, rfl, g, hp', u1, u2, hLr, hrow, lrow, hvh, pw, mem⟩ ⟨rfl, rfl⟩
    have atx := at11.grp g hp'
    have hnp : ∀ z ∈ ns, z ∈ d.ps := fun z hz => Goes.within ok.win (fun y hy => ReachP.within ok.win (fun x hx => (ok.pm x).mpr (.inl hx)) hy) ((mem z).mp hz)
    have ln7 := asc_le7 ok pw hnp
    refine ⟨_, rfl, seq_walk atx.hE (.inl rfl) atx.fh fun J xs G w1 hG hxs hlen D hD => ?_⟩
    refine lc_seqP (bs := d.es) (enc := .str) (p := fun k => decide (∃ z, Beh (trip d.m d.A) k (· ∈ ns) z)) (f := .str) w1 hxs atx.fh hG (by omega) (fun k y F1 H1 hk g1 hy => ?_) hD fun acc F3 H3 g3 fD hDc hacc => ?_
    · rw [dp_str] at hy
      subst hy
      intro Yes No n0 n1
      refine ⟨rfl, _, rfl, _, rfl, _, rfl, _, rfl, ask_behind (atx.gr g1) ok (hvh.ex g1.ff) (.inr rfl) (by omega) fun r2 n2 F2 H2 g2 hr2 pw2 mem2 => ⟨Nat.zero_le _, fun T0 hT0 => ?_⟩⟩
      have g3 := g2.new (o := .tup []) hT0
      refine ne_ints (m := []) (Dp.sees g3.fh (hr2.ex (Ex.new (g2.fh.dm hT0)))) (.tup (.inl (.inl upd_same)) .nil) ⟨_, rfl, ?_⟩
      by_cases c : ∃ z, Beh (trip d.m d.A) k (· ∈ ns) z
      · have n2n : n2 ≠ [] := fun e => by
          obtain ⟨z, hz⟩ := c
          have := (mem2 z).mpr hz
          rw [e] at this
          simp at this
        exact iteYes (by simp [n2n]) ⟨_, rfl, n1 (decide_eq_true c) _ _ _ g3 (.str k)⟩
      · have n2n : n2 = [] := List.eq_nil_iff_forall_not_mem.mpr fun z hz => c ⟨z, (mem2 z).mp hz⟩
        exact iteNo (by simp [n2n]) (n0 (decide_eq_false c) _ _ g3 True.intro)
    have hsub : ∀ k ∈ d.es.filter (fun k => decide (∃ z, Beh (trip d.m d.A) k (· ∈ ns) z)), k ∈ d.es := fun k hk => (List.mem_filter.mp hk).1
    have hsl : (d.es.filter (fun k => decide (∃ z, Beh (trip d.m d.A) k (· ∈ ns) z))).length ≤ 3 := Nat.le_trans (List.length_filter_le _ _) e3
    generalize d.es.filter (fun k => decide (∃ z, Beh (trip d.m d.A) k (· ∈ ns) z)) = some at hacc hsub hsl
    have gd := g3.done hD fD hDc
    have atd := atx.gr gd
    have dSome : Dp K (upd F3 D (.lst acc)) (.ref D) (.list (some.map .str)) := .lst (.inl (.inl upd_same)) (hacc.ex (Ex.new fD))
    generalize upd F3 D (.lst acc) = F3' at gd atd dSome
    clear hDc fD hD hacc g3 hG w1 hxs hlen
    refine ⟨_, rfl, Nat.zero_le _, fun l hl => ?_⟩
    have g4 := gd.new (o := .lst []) hl
    have at4 := atx.gr g4
    have dSome4 := dSome.ex (Ex.new (o := HO.lst []) (gd.fh.dm hl))
    have hLr4 := g4.ff _ _ hLr
    have hvh4 := hvh.ex g4.ff
    refine ne_nil (fun z hz => eOk z (hsub z hz)) (Dp.sees at4.fh dSome4) upd_same ⟨_, rfl, ?_⟩
    have g04 := g.trans g4
    generalize upd H3 l (.lst []) = H4 at g4 at4 g04 ⊢
    generalize upd F3' l (.lst []) = F4 at g4 at4 g04 dSome4 hLr4 hvh4
    by_cases c : some = []
    · exact iteNo (by simp [c]) ⟨_, _, _, F4, t', Lr, row, vh, ns, rfl, g04, at4.pe, u1, by omega, hLr4, hrow, by omega, hvh4, pw, mem⟩
    · refine iteYes (by simp [c]) ?_
      have spos : 0 < some.length := List.length_pos_iff.mpr c
      refine ⟨_, rfl, _, rfl, F4, p, _, _, _, t', rfl, at4.fh, at4.pe, by omega, dSome4, .inl rfl, by rw [List.length_map]; exact spos, by rw [List.length_map]; omega, fun r5 e5 t5 F5 H5 em5 hr5 v1 v2 g5 hp5 => ?_⟩
      obtain ⟨k, hk, rfl⟩ := List.mem_map.mp em5
      rw [dp_str] at hr5
      subst hr5
      have at5 := at4.grp g5 hp5
      have hLr5 := g5.ff _ _ hLr4
      have hvh5 := hvh4.ex g5.ff
      have g05 := g04.trans g5 fun b hb => .inl hb
      refine ⟨_, rfl, _, rfl, by show 1 ≤ sizeLine; omega, fun L6 hL6 => ?_⟩
      have g6 := (Gr.refl (B := []) at5.fh).newM (o := .lst [.str k]) hL6
      refine ⟨Lr, L6, _, _, rfl, rfl, sees_lst g6.fh hLr5, upd_same, by simp; omega, fun N hN => ?_⟩
      have g7 := g6.new (o := .lst (row.map V.str ++ [.str k])) hN
      have at7 := at5.gr g7
      have fN : upd F5 N (.lst (row.map V.str ++ [.str k])) N = Option.some (.lst ((row ++ [k]).map V.str)) := by rw [List.map_append]; exact upd_same
      generalize upd (upd H5 L6 (.lst [.str k])) N (.lst (row.map V.str ++ [.str k])) = H7' at g7 at7 ⊢
      generalize upd F5 N (.lst (row.map V.str ++ [.str k])) = F7' at g7 at7 fN
      refine ⟨_, rfl, _, rfl, _, rfl, _, rfl, ask_behind at7 ok (hvh5.ex g7.ff) (.inr rfl) (by omega) fun r8 n8 F8 H8 g8 hr8 pw8 mem8 => ⟨by show 2 ≤ sizeLine; omega, fun T8 hT8 => ?_⟩⟩
      have g9 := g8.new (o := .tup [.ref N, r8]) hT8
      refine ⟨T8, [.ref N, r8], rfl, .inl (.inl upd_same), rfl, _, _, rfl, _, _, rfl, rfl, ?_⟩
      refine ⟨_, _, _, _, t5, N, row ++ [k], r8, n8, rfl, (g05.trans g7).trans g9, (at7.gr g9).pe, by omega, by omega, g9.ff _ _ fN, fun k' hk' => ?_, by rw [List.length_append]; simp; omega, hr8.ex (Ex.new (g8.fh.dm hT8)), pw8, fun y => ?_⟩
      · rcases List.mem_append.mp hk' with hk' | hk'
        · exact hrow k' hk'
        · rw [List.mem_singleton.mp hk']; exact hsub k hk
      · rw [mem8 y, Goes.snoc]
        exact Beh.congr mem y
  rintro σ' H' ⟨o10, o15, o16, F', t', Lr, row, vh, ns, rfl, g, hp', u1, u2, hLr, hrow, lrow, hvh, pw, mem⟩
  have atE := at11.grp g hp'
  have g0E := (gc.mono (B' := [p]) fun b hb => absurd hb (by simp)).trans g fun b hb => .inl hb
  have dRow : Dp K F' (.ref Lr) (.list (row.map .str)) := .lst (.inl (.inl hLr)) (dps_str.mpr rfl)
  have hnp : ∀ z ∈ ns, z ∈ d.ps := fun z hz => Goes.within ok.win (fun y hy => ReachP.within ok.win (fun x hx => (ok.pm x).mpr (.inl hx)) hy) ((mem z).mp hz)
  refine ⟨_, rfl, _, rfl, _, rfl, ask_known atE ok dRow hrow fun r2 n2 F2 H2 g2 hr2 pw2 mem2 => ⟨_, rfl, ?_⟩⟩
  have at2 := atE.gr g2
  refine ne_same (Dp.sees g2.fh hr2) (Dp.sees g2.fh (hvh.ex g2.ff)) pw2 pw (fun z => (mem2 z).trans (mem z).symm) ⟨_, rfl, iteF ?_⟩
  refine ⟨_, rfl, Nat.zero_le _, fun l hl => ?_⟩
  have g3 := g2.new (o := .lst []) hl
  have at3 := atE.gr g3
  refine ne_nil (fun z hz => eOk z (hrow z hz)) (Dp.sees g3.fh (dRow.ex g3.ff)) upd_same ⟨_, rfl, ?_⟩
  have g03 := g0E.trans g3
  have dRow3 := dRow.ex g3.ff
  have hvh3 := hvh.ex g3.ff
  generalize upd H2 l (.lst []) = H3 at g3 at3 g03 ⊢
  generalize upd F2 l (.lst []) = F3 at g3 at3 g03 dRow3 hvh3
  have tl : t' ≤ t + 40 := by omega
  have done : ∀ F4 H4 (o10 o11 o12 o15 o16 : Option V), Gr [] F3 H3 F4 H4 → tD { nx := fun _ H' => Q .non H', rt := Q } [some (.ref p), some d.va, some d.vst, some (.ref d.a), some (.ref d.sx), some (.ref d.wx), some d.pl, some d.ev, some (.ref L1), some (.ref L2), o10, o11, o12, some (.ref Lr), some vh, o15, o16, none, none, none, none, none, none, none, none, none, none] H4 := fun F4 H4 o10 o11 o12 o15 o16 g4 =>
    hD F4 H4 p t' d _ _ o10 o11 o12 o15 o16 (.ref Lr) vh row ns (at3.gr g4) ok (by omega) (dRow3.ex g4.ff) hrow (by omega) (hvh3.ex g4.ff) pw mem fun F' H' t6 g5 hp5 v1 v2 => q F' H' t6 ((g03.trans g4).trans g5 fun b hb => .inl hb) hp5 (by omega) (by omega)
  by_cases c : row = []
  · exact iteNo (by simp [c]) (iteF (done F3 H3 o10 o11 o12 o15 o16 (Gr.refl at3.fh)))
  · refine iteYes (by simp [c]) ?_
    obtain ⟨r', k, rfl⟩ : ∃ r' k, row = r' ++ [k] := ⟨row.dropLast, row.getLast c, (List.dropLast_concat_getLast c).symm⟩
    have hr' : ∀ x ∈ r', x ∈ d.es := fun x hx => hrow x (List.mem_append_left _ hx)
    have hk : k ∈ d.es := hrow k (by simp)
    refine ⟨_, rfl, _, rfl, _, rfl, _, rfl, _, rfl, ?_⟩
    refine ⟨_, rfl, _, rfl, slQ_dp dRow3 (.inl rfl) at3.fh fun rr e F4 H4 g4 tw hrr => ?_⟩
    have he : e = .list (r'.map .str) := by
      rcases tw with ⟨z1, z2⟩ | ⟨z1, z2⟩
      · rw [z2, List.map_append]
        exact congrArg PyData.list (cutD_init _ _)
      · cases z1
    subst he
    have at4 := at3.gr g4
    refine ask_known at4 ok hrr hr' fun r5 n5 F5 H5 g5 hr5 pw5 mem5 => ?_
    have at5 := at4.gr g5
    have g35 := g4.trans g5
    refine ⟨_, rfl, _, rfl, ix_dp (dRow3.ex g35.ff) (.inl rfl) g5.fh (e := .str k) (by rw [List.map_append]; exact atI_last _ _) fun rk hrk => ?_⟩
    rw [dp_str] at hrk
    subst hrk
    have n5p : ∀ z ∈ n5, z ∈ d.ps := fun z hz => Goes.within ok.win (fun y hy => ReachP.within ok.win (fun x hx => (ok.pm x).mpr (.inl hx)) hy) ((mem5 z).mp hz)
    refine ask_after at5 ok hr5 (.inr rfl) pw5 n5p hk fun r6 n6 F6 H6 g6 hr6 pw6 mem6 => ⟨_, rfl, ?_⟩
    have g36 := g35.trans g6
    refine ne_same (Dp.sees g36.fh hr6) (Dp.sees g36.fh (hvh3.ex g36.ff)) pw6 pw (fun z => ?_) ⟨_, rfl, iteF (done F6 H6 o10 o11 o12 o15 o16 g36)⟩
    rw [mem6 z, mem z, Goes.snoc]
    exact Beh.congr mem5 z
end
end TW
set_option Elab.async false
set_option linter.all false
set_option maxRecDepth 100000
set_option maxHeartbeats 16000000
/-! one drawn world, whole -/
namespace TW
open PySem PySem.Spec PyProof.Rows L2 RZ StX
open Evl (Ex)
def spOne (K : PySem.W.Frag) : Sp := fun vs H Q _ => ∃ (F : Hp) (p : Addr) (t : Int), vs = [.ref p] ∧ Sees F H ∧ PenAt K F H p t ∧ t + 1000 ≤ 1000000 ∧ ∀ F' H' t', Gr [p] F H F' H' → PenAt K F' H' p t' → t ≤ t' → t' ≤ t + 1000 → Q (.bl true) H'
section
variable {P : Program} {w : World} {K : PySem.W.Frag} {mg : Str → Option Value} {base : Heap}
theorem ok_one {CS CW f : Addr} {fd : FuncData} (F : Fun K "_law_one_right" "_law_one_right" s__law_one_right f fd) (T : Txt mg)
    (C__law_draw : Cal P w K mg base "_law_draw" 1 ["pen", "many"] [] (spDraw K)) (C__law_pick : Cal P w K mg base "_law_pick" 2 ["pen", "some"] [] (spPick K)) (C__law_some : Cal P w K mg base "_law_some" 2 ["pen", "some"] [] (spSome K)) (C__law_shuffled : Cal P w K mg base "_law_shuffled" 2 ["pen", "some"] [] (spShuf K))
    (C__law_plain : Cal P w K mg base "_law_plain" 4 ["pen", "many", "number"] [] (spLPlain K)) (C__law_places : Cal P w K mg base "_law_places" 1 ["arrows", "starts"] [] (spPlaces K)) (C__law_all_marks : Cal P w K mg base "_law_all_marks" 1 ["arrows", "marks"] [] (spAllMarks K))
    (C__law_closed : Cal P w K mg base "_law_closed" 1 ["arrows", "marks", "places"] [] (spLClosed K)) (C__law_behind : Cal P w K mg base "_law_behind" 2 ["arrows", "marks", "places", "mark"] [] (spLBehind K))
    (M_Speech : Mkr P w K mg base "Speech" CS 4 ["self", "arrows", "starts"] (spSpI K CS)) (M_Wall : Mkr P w K mg base "Wall" CW 4 ["self", "marks"] (spWaI K CW))
    (C_silent : Cal P w K mg base "silent" 5 ["speech", "wall", "places"] [] (spSilent K CS CW)) (CB_silent : CalB P w K mg base "silent" 5 ["speech", "wall", "places"] ["places", "wall", "speech"] (spSilent K CS CW))
    (C_after : Cal P w K mg base "after" 5 ["speech", "wall", "places", "mark"] [] (spAfter K CS CW)) (CB_after : CalB P w K mg base "after" 5 ["speech", "wall", "places", "mark"] ["mark", "places", "wall", "speech"] (spAfter K CS CW))
    (C_known : Cal P w K mg base "known" 4 ["speech", "wall", "row"] [] (spKnown K CS CW)) :
    FnOk P w K mg base CX0 9 f fd ["pen"] (spOne K) := by
  refine F.ok sc__law_one_right (fun vs H Q E h => ?_) (fun cdv A outer s H vs Q E hr h => ?_)
  · obtain ⟨F0, p, t, rfl, _⟩ := h
    rfl
  · obtain ⟨F0, p, t, rfl, fs, hp, ht, q⟩ := h
    have hu := hu_of hr
    have hu8 := hu8_of hr
    have hu16 := hu16_of hr
    have hu64 := hr.units
    have lz : 100000 < sizeLine := by rw [sizeLine_eq]; decide
    obtain ⟨tB, PB, hB⟩ := one_b (Q := Q) (E := E) (H := H) (s := s) (outer := outer) (cdv := cdv) (A := A) (f := f) (CS := CS) (CW := CW) T hr C__law_pick C__law_shuffled C__law_closed C__law_behind M_Speech M_Wall C_silent CB_silent C_after CB_after C_known
    refine ⟨_, (pss_cons (ps_asg (pe_cal C__law_plain (hr.mono (by decide)) (pa_cons (pv 0) (pa_cons (pe_op op_add pe_int (pe_cal C__law_draw (hr.mono (by decide)) (pa_cons (pv 0) (pa_cons pe_int pa_nil)))) (pa_cons (pe_op op_add pe_int (pe_cal C__law_draw (hr.mono (by decide)) (pa_cons (pv 0) (pa_cons pe_int pa_nil)))) pa_nil)))) (zpg (n := 3) K (pgs_cons (zg (i := 1) sc__law_one_right.nd) (pgs_cons (zg (i := 2) sc__law_one_right.nd) (pgs_cons (zg (i := 3) sc__law_one_right.nd) pgs_nil)))))
      (pss_cons (ps_asg (pe_tup (pa_cons (pe_mk M_Speech (hr.mono (by decide)) (pa_cons (pv 1) (pa_cons (pv 2) pa_nil))) (pa_cons (pe_mk M_Wall (hr.mono (by decide)) (pa_cons (pv 3) pa_nil)) (pa_cons (pe_cal C__law_places (hr.mono (by decide)) (pa_cons (pv 1) (pa_cons (pv 2) pa_nil))) (pa_cons (pe_cal C__law_all_marks (hr.mono (by decide)) (pa_cons (pv 1) (pa_cons (pv 3) pa_nil))) pa_nil))))) (zpg (n := 4) K (pgs_cons (zg (i := 4) sc__law_one_right.nd) (pgs_cons (zg (i := 5) sc__law_one_right.nd) (pgs_cons (zg (i := 6) sc__law_one_right.nd) (pgs_cons (zg (i := 7) sc__law_one_right.nd) pgs_nil))))))
      (pss_cons (zpar (i := 8) (j := 9) sc__law_one_right.nd (pa_cons (pe_cal C__law_some (hr.mono (by decide)) (pa_cons (pv 0) (pa_cons (pv 6) pa_nil))) (pa_cons (pe_cal C__law_some (hr.mono (by decide)) (pa_cons (pv 0) (pa_cons (pv 6) pa_nil))) pa_nil)))
      PB))), ?_⟩
    refine ⟨_, rfl, _, rfl, F0, p, 6, t, rfl, fs, hp, by omega, by decide, by decide, fun d1 t1 F1 H1 a0 a1 u1 u2 g1 hp1 => ⟨_, _, rfl, rfl, _, rfl, F1, p, 8, t1, rfl, g1.fh, hp1, by omega, by decide, by decide, fun d2 t2 F2 H2 b0 b1 u3 u4 g2 hp2 => ⟨_, _, rfl, rfl, ?_⟩⟩⟩
    obtain ⟨n2, rfl⟩ : ∃ n : Nat, d2 = (n : Int) := ⟨d2.toNat, by omega⟩
    have g02 := g1.trans g2 fun b hb => .inl hb
    refine ⟨F2, p, 2 + d1, 4 + n2, t2, by rw [show ((4 + n2 : Nat) : Int) = 4 + (n2 : Int) by omega]; rfl, g2.fh, hp2, by omega, by omega, by omega, by omega, fun r a va vst kvs sounds AA S m t3 F3 H3 fr fa ha dA dS tl pok u5 u6 g3 hp3 => ?_⟩
    have g03 := g02.trans g3 fun b hb => .inl hb
    have pok7 : PlainOk 7 11 sounds AA S m := ⟨pok.so, pok.nd, by have := pok.len; omega, fun b hb => by
      obtain ⟨q1, q2, q3, q4, q5⟩ := pok.ar b hb
      exact ⟨q1, by omega, q3, q4, by omega⟩, pok.srt, fun z hz => by
      obtain ⟨q1, q2⟩ := pok.st z hz
      exact ⟨q1, by omega⟩, pok.ne, pok.sl, pok.mks⟩
    obtain ⟨snd, s0, s3, sne, sOk⟩ := PlainOk.facts pok7.so
    have lA := pok7.len
    have lS := pok7.sl
    refine ⟨r, _, rfl, sees_t g3.fh (.inl (.inl fr)), rfl, _, _, rfl, _, _, rfl, _, _, rfl, rfl, ?_⟩
    -- the speech
    refine ⟨_, rfl, _, rfl, fun x dx hx hdx nex => ?_⟩
    refine ⟨F3, x, dx, va, vst, _, _, AA, S, rfl, upd_same, g3.fh.dm hx, make_sees g3.fh hx hdx nex, dA, .inl rfl, dS, .inl rfl, by omega, by omega, List.all_eq_true.mpr fun b hb => ?_, fun b hb => ?_, pok7.nd, (lot_of pok7.srt fun z hz => ?_).1, pok7.ne, fun s' F4 H4 sA sS g4 fx4 hsp => ⟨rfl, ?_⟩⟩
    · obtain ⟨q1, q2, q3, q4, q5⟩ := pok7.ar b hb
      have w1 : b.1 ≤ 399 := by omega
      have w2 : b.2.2 ≤ 399 := by omega
      simp [okArr, (sOk _ q3).2.2.1, isWithin, q1, q4, w1, w2]
    · obtain ⟨q1, q2, q3, q4, q5⟩ := pok7.ar b hb
      exact ⟨by rw [(sOk _ q3).2.1]; decide, (sOk _ q3).1⟩
    · obtain ⟨q1, q2⟩ := pok7.st z hz
      omega
    have g4' := make_gr g3.fh hx hdx nex g4 fx4
    generalize upd F4 x ((H4 x).getD (.own 0)) = F4' at g4' hsp
    have ha4 := g4'.at ha
    have fa4 := g4'.ff _ _ fa
    -- the wall
    refine ⟨_, rfl, fun x2 dx2 hx2 hdx2 nex2 => ?_⟩
    refine ⟨F4', x2, dx2, a, kvs, sounds, m, rfl, upd_same, g4'.fh.dm hx2, make_sees g4'.fh hx2 hdx2 nex2, fa4, by rw [upd_ne (ne_of_none ha4 hx2), upd_ne (ne_of_none ha4 hdx2)]; exact ha4, tl.ex g4'.ff, fun e => by rw [e] at s0; exact absurd s0 (by simp), by omega, snd, fun z hz => ⟨by rw [(sOk z hz).2.1]; decide, (sOk z hz).2.2.1⟩, fun z hz => ?_, fun wd' F5 H5 wk wm g5 fx5 hwa => ⟨rfl, ?_⟩⟩
    · obtain ⟨m1, m6, mnd, mz⟩ := pok7.mks z hz
      refine ⟨m1, m6, fun y hy => ?_, mnd⟩
      rcases mz y hy with rfl | e
      · decide +kernel
      · exact ⟨by rw [(sOk y e).2.1]; decide, (sOk y e).2.2.2⟩
    have g5' := make_gr g4'.fh hx2 hdx2 nex2 g5 fx5
    generalize upd F5 x2 ((H5 x2).getD (.own 0)) = F5' at g5' hwa
    have g35 := g4'.trans g5'
    -- places, all marks
    refine ⟨_, rfl, _, rfl, F5', va, vst, AA, S, rfl, g5'.fh, dA.ex g35.ff, dS.ex g35.ff, by omega, by omega, fun r6 ps F6 H6 pp pm dP g6 => ?_⟩
    have g36 := g35.trans g6
    refine ⟨_, rfl, _, rfl, F6, va, a, kvs, sounds, m, rfl, g6.fh, g36.ff _ _ fa, g36.at ha, tl.ex g36.ff, by omega, fun k hk => ⟨(pok7.mks k hk).2.1, (pok7.mks k hk).2.2.1⟩, fun r7 es F7 H7 en em dE g7 => ⟨by show 4 ≤ sizeLine; omega, fun T8 hT8 => ?_⟩⟩
    have g8 := (g36.trans g7).new (o := .tup [.ref x, .ref x2, r6, r7]) hT8
    have e8 := Ex.new (o := HO.tup [.ref x, .ref x2, r6, r7]) (g7.fh.dm hT8)
    refine ⟨T8, [.ref x, .ref x2, r6, r7], rfl, .inl (.inl upd_same), rfl, _, _, rfl, _, _, rfl, _, _, rfl, _, _, rfl, rfl, ?_⟩
    have okd : OneOk ⟨sounds, AA, S, m, va, vst, a, kvs, x, x2, s', wd', r6, r7, ps, es⟩ := ⟨pok7, hsp.ok, hwa.ok, sA, sS, wk, wm, pp, pm, en, em⟩
    have e68 := g7.ff.trans e8
    have at8 : OneAt K CS CW _ _ p t3 ⟨sounds, AA, S, m, va, vst, a, kvs, x, x2, s', wd', r6, r7, ps, es⟩ := ⟨g8.fh, hp3.gr g8 (by simp), dA.ex g8.ff, dS.ex g8.ff, g8.ff _ _ fa, g8.at ha, tl.ex g8.ff, ((hsp.ex' g5'.ff).ex' g6.ff).ex' e68, (hwa.ex' g6.ff).ex' e68, dP.ex e68, dE.ex e8⟩
    have g08 := g03.trans g8
    generalize upd H7 T8 (.tup [.ref x, .ref x2, r6, r7]) = H8 at g8 at8 g08 ⊢
    generalize upd F7 T8 (.tup [.ref x, .ref x2, r6, r7]) = F8 at g8 at8 g08
    clear e8 e68 g8 g7 dE dP g6 g5' g5 g4' g4 g36 g35 hT8
    have p7 := okd.p7
    have p7' : ps.length ≤ 7 := p7
    -- one, other
    refine ⟨_, rfl, _, rfl, F8, p, r6, _, ps.map .int, t3, rfl, at8.fh, at8.pe, by rw [List.length_map]; omega, at8.hP, .inl rfl, by rw [List.length_map]; omega, fun L1 xs1 es1 t4 F9 H9 sub1 f1 dp1 v1 v2 g9 hp9 => ?_⟩
    obtain ⟨l1, sl1, rfl⟩ := List.sublist_map_iff.mp sub1
    rw [dps_int] at dp1
    subst dp1
    have at9 := at8.grp g9 hp9
    rw [List.length_map] at v2
    refine ⟨_, rfl, _, rfl, F9, p, r6, _, ps.map .int, t4, rfl, at9.fh, at9.pe, by rw [List.length_map]; omega, at9.hP, .inl rfl, by rw [List.length_map]; omega, fun L2 xs2 es2 t5 F10 H10 sub2 f2 dp2 v3 v4 g10 hp10 => ?_⟩
    obtain ⟨l2, sl2, rfl⟩ := List.sublist_map_iff.mp sub2
    rw [dps_int] at dp2
    subst dp2
    have at10 := at9.grp g10 hp10
    rw [List.length_map] at v4
    have g010 := (g08.trans g9 fun b hb => .inl hb).trans g10 fun b hb => .inl hb
    refine ⟨_, _, rfl, hB F10 H10 p t5 _ L1 L2 l1 l2 at10 okd (by omega) (g10.ff _ _ f1) f2 sl1 sl2 fun F' H' t' g' hp' w1 w2 => q F' H' t' (g010.trans g' fun b hb => .inl hb) hp' (by omega) (by omega)⟩
end
end TW
set_option Elab.async false
set_option linter.all false
set_option maxRecDepth 100000
set_option maxHeartbeats 8000000
/-! the law; how defs stand for their callers -/
namespace TW
open PySem PySem.Spec PyProof.Rows L2 RZ StX
open Evl (Ex)
def spLaw (K : PySem.W.Frag) : Sp := fun vs H Q _ => ∃ (a : Addr) (ns : List Int), vs = [.ref a] ∧ SqL K H a (ns.map V.int) ∧ ns.length ≤ 63 ∧ ∀ H', Q (.bl true) H'
section
variable {P : Program} {w : World} {K : PySem.W.Frag} {mg : Str → Option Value} {base : Heap}
theorem ok_law {f : Addr} {fd : FuncData} (F : Fun K "law" "law" s_law f fd) (T : Txt mg) (C__law_pen : Cal P w K mg base "_law_pen" 1 ["script"] [] (spPen K)) (C__law_one_right : Cal P w K mg base "_law_one_right" 9 ["pen"] [] (spOne K)) :
    FnOk P w K mg base CX0 10 f fd ["script"] (spLaw K) := by
  refine F.ok sc_law (fun vs H Q E h => ?_) (fun cdv A outer s H vs Q E hr h => ?_)
  · obtain ⟨a, ns, rfl, _⟩ := h
    rfl
  · obtain ⟨a, ns, rfl, hS, _, q⟩ := h
    have lz : 100000 < sizeLine := by rw [sizeLine_eq]; decide
    refine ⟨_, (pss_cons (zs (i := 1) sc_law.nd (pe_cal C__law_pen (hr.mono (by decide)) (pa_cons (pv 0) pa_nil)))
      (pss_cons (ps_for PassesOwn.never rfl (pi_range1 rfl T.range (pa_cons pe_int pa_nil)) (zg (i := 2) sc_law.nd)
        (pss_one (ps_if (pt_not (pt_val (pe_cal C__law_one_right (hr.mono (by decide)) (pa_cons (pv 1) pa_nil))))
          (pss_one (ps_ret pe_bl))
          pss_nil)))
      (pss_one (ps_ret pe_bl)))), ?_⟩
    refine ⟨_, rfl, H, .ref a, ns, rfl, ex_sees (Ex.refl H), .lst hS (dps_int.mpr rfl), fun p F1 H1 np g1 hp1 => ?_⟩
    refine ⟨6, rfl, by decide, by decide, ?_⟩
    refine for_it walk_range (fun i σ' H' => ∃ (o2 : Option V) (F' : Hp) (t' : Int), σ' = [some (.ref a), some (.ref p), o2] ∧ Sees F' H' ∧ PenAt K F' H' p t' ∧ 0 ≤ t' ∧ t' ≤ 1000 * i)
      ⟨none, F1, 0, rfl, g1.fh, hp1, Int.le_refl _, by omega⟩ (fun _ _ _ _ _ => True.intro) ?_ ?_
    · rintro i y σ' H' H'' hi ⟨o2, F', t', rfl, fh, hp', u1, u2⟩ ⟨rfl, rfl⟩
      have hi' : i < 6 := hi
      refine ⟨_, rfl, F', p, t', rfl, fh, hp', by omega, fun F2 H2 t2 g2 hp2 v1 v2 => ?_⟩
      refine ⟨_, rfl, iteF ?_⟩
      exact ⟨_, F2, t2, rfl, g2.fh, hp2, by omega, by omega⟩
    · rintro σ' H' ⟨o2, F', t', rfl, fh, hp', u1, u2⟩
      exact q H'
/-! ### how defs stand for their callers -/
theorem cal_of {x : Str} {st : Stmt} {f : Addr} {fd : FuncData} {k : Nat} {ps : List Str} {sp : Sp} (F : Fun K x x st f fd) (hm : mg x = some (.ref f)) (b : Binds K fd ps []) (o : FnOk P w K mg base CX0 k f fd ps sp) : Cal P w K mg base x k ps [] sp :=
  ⟨f, fd, [], hm, F.kp, .nil, b, o⟩
theorem calB_of {x : Str} {st : Stmt} {f : Addr} {fd : FuncData} {k : Nat} {ps ks : List Str} {sp : Sp} (F : Fun K x x st f fd) (hm : mg x = some (.ref f)) (b : KBinds K fd ps ks back back) (o : FnOk P w K mg base CX0 k f fd ps sp) : CalB P w K mg base x k ps ks sp :=
  ⟨f, fd, hm, F.kp, b, o⟩
theorem fund_mk {x qual : Str} {st : Stmt} {f T : Addr} {oc tc : Value} {od an td : Option Addr} {osl tsl : Array (Option Value)} {kV doc pm cdv ct u : Value} {v : V} {n : Nat} (l : K.lookup f = some ⟨oc, od, .func (PySem.W.fnOf x qual (defArgs st) (defBody st) (defScope st) (.ref T) kV doc pm an cdv ct), osl⟩)
    (c : PySem.W.codeIn K cdv qual = true) (k : PySem.W.keepIn K (.ref f) = true) (lT : K.lookup T = some ⟨tc, td, .seq #[u] n, tsl⟩) (hv : L2.RelV v u) : FunD K x qual (defArgs st) (defBody st) (defScope st) [v] [] f (PySem.W.fnOf x qual (defArgs st) (defBody st) (defScope st) (.ref T) kV doc pm an cdv ct) :=
  ⟨⟨oc, od, .ref T, kV, doc, pm, an, cdv, ct, osl, rfl, l, c, .inr ⟨by simp, T, _, [u], n, rfl, lT, rfl, .cons hv .nil⟩, .inl rfl⟩, k⟩
theorem calD_of {x : Str} {st : Stmt} {f : Addr} {fd : FuncData} {k : Nat} {ps : List Str} {sp : Sp} {v : V} {dvs : List V} (F : FunD K x x (defArgs st) (defBody st) (defScope st) [v] [] f fd) (hm : mg x = some (.ref f)) (b : ∃ ds, Vals dvs ds ∧ Binds K fd ps ds) (o : FnOk P w K mg base CX0 k f fd ps sp) : Cal P w K mg base x k ps dvs sp := by
  obtain ⟨ds, h1, h2⟩ := b
  exact ⟨f, fd, ds, hm, F.kp, h1, h2, o⟩
theorem cons_of {h : Heap} {x : Str} {v : V} {u : Value} (X : K.In h) (G : h.Ns mainGlobals mg) (a : PySem.W.nsIn K mainGlobals x = some (some u)) (r : L2.RelV v u) : ∃ u, mg x = some u ∧ L2.RelV v u := ⟨u, PySem.W.mg_of X G a, r⟩
end
end TW
set_option Elab.async false
set_option maxRecDepth 100000
set_option maxHeartbeats 8000000
/-! what the top has left, and the law's own head -/
namespace TW
open PySem PySem.Spec PyProof.Rows L2
theorem all_mk {l : PySem.W.OpenLaw} {w : World} {K : PySem.W.Frag} {h : Heap} {mg : Str → Option Value} {fa : Addr} (X : K.In h) (G : h.Ns mainGlobals mg) (hfa : mg "law" = some (.ref fa))
    {CS : Addr} {CW : Addr} {CH : Addr} {f_is_integer : Addr} {od_is_integer an_is_integer : Option Addr} {sl_is_integer : Array (Option Value)} {oc_is_integer kV_is_integer dc_is_integer pm_is_integer cd_is_integer ct_is_integer : Value} {f_is_within : Addr} {od_is_within an_is_within : Option Addr} {sl_is_within : Array (Option Value)} {oc_is_within kV_is_within dc_is_within pm_is_within cd_is_within ct_is_within : Value} {f_is_listed : Addr} {od_is_listed an_is_listed : Option Addr} {sl_is_listed : Array (Option Value)} {oc_is_listed kV_is_listed dc_is_listed pm_is_listed cd_is_listed ct_is_listed : Value} {f_is_sound : Addr} {od_is_sound an_is_sound : Option Addr} {sl_is_sound : Array (Option Value)} {oc_is_sound kV_is_sound dc_is_sound pm_is_sound cd_is_sound ct_is_sound : Value} {f_ascends : Addr} {od_ascends an_ascends : Option Addr} {sl_ascends : Array (Option Value)} {oc_ascends kV_ascends dc_ascends pm_ascends cd_ascends ct_ascends : Value} {f_is_mark : Addr} {od_is_mark an_is_mark : Option Addr} {sl_is_mark : Array (Option Value)} {oc_is_mark kV_is_mark dc_is_mark pm_is_mark cd_is_mark ct_is_mark : Value} {f_is_heard : Addr} {od_is_heard an_is_heard : Option Addr} {sl_is_heard : Array (Option Value)} {oc_is_heard kV_is_heard dc_is_heard pm_is_heard cd_is_heard ct_is_heard : Value} {f_is_lot : Addr} {od_is_lot an_is_lot : Option Addr} {sl_is_lot : Array (Option Value)} {oc_is_lot kV_is_lot dc_is_lot pm_is_lot cd_is_lot ct_is_lot : Value} {f_is_inside : Addr} {od_is_inside an_is_inside : Option Addr} {sl_is_inside : Array (Option Value)} {oc_is_inside kV_is_inside dc_is_inside pm_is_inside cd_is_inside ct_is_inside : Value} {f_is_arrow : Addr} {od_is_arrow an_is_arrow : Option Addr} {sl_is_arrow : Array (Option Value)} {oc_is_arrow kV_is_arrow dc_is_arrow pm_is_arrow cd_is_arrow ct_is_arrow : Value} {f_Speech___init__ : Addr} {od_Speech___init__ an_Speech___init__ : Option Addr} {sl_Speech___init__ : Array (Option Value)} {oc_Speech___init__ kV_Speech___init__ dc_Speech___init__ pm_Speech___init__ cd_Speech___init__ ct_Speech___init__ : Value} {f_are_marks : Addr} {od_are_marks an_are_marks : Option Addr} {sl_are_marks : Array (Option Value)} {oc_are_marks kV_are_marks dc_are_marks pm_are_marks cd_are_marks ct_are_marks : Value} {f_Wall___init__ : Addr} {od_Wall___init__ an_Wall___init__ : Option Addr} {sl_Wall___init__ : Array (Option Value)} {oc_Wall___init__ kV_Wall___init__ dc_Wall___init__ pm_Wall___init__ cd_Wall___init__ ct_Wall___init__ : Value} {f_need_speech : Addr} {od_need_speech an_need_speech : Option Addr} {sl_need_speech : Array (Option Value)} {oc_need_speech kV_need_speech dc_need_speech pm_need_speech cd_need_speech ct_need_speech : Value} {T_need_speech : Addr} {tc_need_speech : Value} {td_need_speech : Option Addr} {tn_need_speech : Nat} {ts_need_speech : Array (Option Value)} {uT_need_speech : Tok} {f_need_wall : Addr} {od_need_wall an_need_wall : Option Addr} {sl_need_wall : Array (Option Value)} {oc_need_wall kV_need_wall dc_need_wall pm_need_wall cd_need_wall ct_need_wall : Value} {f_Hearing___init__ : Addr} {od_Hearing___init__ an_Hearing___init__ : Option Addr} {sl_Hearing___init__ : Array (Option Value)} {oc_Hearing___init__ kV_Hearing___init__ dc_Hearing___init__ pm_Hearing___init__ cd_Hearing___init__ ct_Hearing___init__ : Value} {f_Hearing_closed : Addr} {od_Hearing_closed an_Hearing_closed : Option Addr} {sl_Hearing_closed : Array (Option Value)} {oc_Hearing_closed kV_Hearing_closed dc_Hearing_closed pm_Hearing_closed cd_Hearing_closed ct_Hearing_closed : Value} {f_Hearing_begun : Addr} {od_Hearing_begun an_Hearing_begun : Option Addr} {sl_Hearing_begun : Array (Option Value)} {oc_Hearing_begun kV_Hearing_begun dc_Hearing_begun pm_Hearing_begun cd_Hearing_begun ct_Hearing_begun : Value} {f_Hearing_behind : Addr} {od_Hearing_behind an_Hearing_behind : Option Addr} {sl_Hearing_behind : Array (Option Value)} {oc_Hearing_behind kV_Hearing_behind dc_Hearing_behind pm_Hearing_behind cd_Hearing_behind ct_Hearing_behind : Value} {f_need_hearing : Addr} {od_need_hearing an_need_hearing : Option Addr} {sl_need_hearing : Array (Option Value)} {oc_need_hearing kV_need_hearing dc_need_hearing pm_need_hearing cd_need_hearing ct_need_hearing : Value} {f_need_places : Addr} {od_need_places an_need_places : Option Addr} {sl_need_places : Array (Option Value)} {oc_need_places kV_need_places dc_need_places pm_need_places cd_need_places ct_need_places : Value} {f_need_row : Addr} {od_need_row an_need_row : Option Addr} {sl_need_row : Array (Option Value)} {oc_need_row kV_need_row dc_need_row pm_need_row cd_need_row ct_need_row : Value} {f_silent : Addr} {od_silent an_silent : Option Addr} {sl_silent : Array (Option Value)} {oc_silent kV_silent dc_silent pm_silent cd_silent ct_silent : Value} {f_after : Addr} {od_after an_after : Option Addr} {sl_after : Array (Option Value)} {oc_after kV_after dc_after pm_after cd_after ct_after : Value} {f_known : Addr} {od_known an_known : Option Addr} {sl_known : Array (Option Value)} {oc_known kV_known dc_known pm_known cd_known ct_known : Value} {T_known : Addr} {tc_known : Value} {td_known : Option Addr} {tn_known : Nat} {ts_known : Array (Option Value)} {E_known : Addr} {f__law_pen : Addr} {od__law_pen an__law_pen : Option Addr} {sl__law_pen : Array (Option Value)} {oc__law_pen kV__law_pen dc__law_pen pm__law_pen cd__law_pen ct__law_pen : Value} {f__law_draw : Addr} {od__law_draw an__law_draw : Option Addr} {sl__law_draw : Array (Option Value)} {oc__law_draw kV__law_draw dc__law_draw pm__law_draw cd__law_draw ct__law_draw : Value} {f__law_pick : Addr} {od__law_pick an__law_pick : Option Addr} {sl__law_pick : Array (Option Value)} {oc__law_pick kV__law_pick dc__law_pick pm__law_pick cd__law_pick ct__law_pick : Value} {f__law_shuffled : Addr} {od__law_shuffled an__law_shuffled : Option Addr} {sl__law_shuffled : Array (Option Value)} {oc__law_shuffled kV__law_shuffled dc__law_shuffled pm__law_shuffled cd__law_shuffled ct__law_shuffled : Value} {f__law_some : Addr} {od__law_some an__law_some : Option Addr} {sl__law_some : Array (Option Value)} {oc__law_some kV__law_some dc__law_some pm__law_some cd__law_some ct__law_some : Value} {f__law_arrows : Addr} {od__law_arrows an__law_arrows : Option Addr} {sl__law_arrows : Array (Option Value)} {oc__law_arrows kV__law_arrows dc__law_arrows pm__law_arrows cd__law_arrows ct__law_arrows : Value} {f__law_marks : Addr} {od__law_marks an__law_marks : Option Addr} {sl__law_marks : Array (Option Value)} {oc__law_marks kV__law_marks dc__law_marks pm__law_marks cd__law_marks ct__law_marks : Value} {T__law_marks : Addr} {tc__law_marks : Value} {td__law_marks : Option Addr} {tn__law_marks : Nat} {ts__law_marks : Array (Option Value)} {f__law_plain : Addr} {od__law_plain an__law_plain : Option Addr} {sl__law_plain : Array (Option Value)} {oc__law_plain kV__law_plain dc__law_plain pm__law_plain cd__law_plain ct__law_plain : Value} {f__law_places : Addr} {od__law_places an__law_places : Option Addr} {sl__law_places : Array (Option Value)} {oc__law_places kV__law_places dc__law_places pm__law_places cd__law_places ct__law_places : Value} {f__law_closed : Addr} {od__law_closed an__law_closed : Option Addr} {sl__law_closed : Array (Option Value)} {oc__law_closed kV__law_closed dc__law_closed pm__law_closed cd__law_closed ct__law_closed : Value} {f__law_behind : Addr} {od__law_behind an__law_behind : Option Addr} {sl__law_behind : Array (Option Value)} {oc__law_behind kV__law_behind dc__law_behind pm__law_behind cd__law_behind ct__law_behind : Value} {f__law_all_marks : Addr} {od__law_all_marks an__law_all_marks : Option Addr} {sl__law_all_marks : Array (Option Value)} {oc__law_all_marks kV__law_all_marks dc__law_all_marks pm__law_all_marks cd__law_all_marks ct__law_all_marks : Value} {f__law_one_right : Addr} {od__law_one_right an__law_one_right : Option Addr} {sl__law_one_right : Array (Option Value)} {oc__law_one_right kV__law_one_right dc__law_one_right pm__law_one_right cd__law_one_right ct__law_one_right : Value} {f_law : Addr} {od_law an_law : Option Addr} {sl_law : Array (Option Value)} {oc_law kV_law dc_law pm_law cd_law ct_law : Value} {tk_SIGNS : Tok} {tk_MARK_SIGNS : Tok} {tk_MOST_SIGNS : Tok} {tk_MOST_PLACE : Tok} {tk_MOST_ARROWS : Tok} {tk_ARROW : Tok} {tk_MOST_MARKS : Tok}
    (a_Speech : PySem.W.nsIn K mainGlobals "Speech" = some (some (.ref CS)))
    (pg_Speech : PySem.W.plainGet K CS Str.empty = true)
    (hd_Speech : PySem.W.hasDictIn K CS = true)
    (po_Speech : PySem.W.plainOver K CS = true)
    (sa_Speech : PySem.W.findIn K (.ref CS) "__setattr__" = some (some (.builtin "object.__setattr__")))
    (mk_Speech : PySem.W.makesIn K CS = true)
    (kc_Speech : PySem.W.keepIn K (.ref CS) = true)
    (n_Speech_arrows : PySem.W.findIn K (.ref CS) "arrows" = some none)
    (n_Speech_starts : PySem.W.findIn K (.ref CS) "starts" = some none)
    (n_Speech_places : PySem.W.findIn K (.ref CS) "places" = some none)
    (n_Speech_sounds : PySem.W.findIn K (.ref CS) "sounds" = some none)
    (n_Speech_own_from : PySem.W.findIn K (.ref CS) "own_from" = some none)
    (ha_Speech : PySem.W.findIn K (.ref CS) "__class__" = some (some (.builtin "object.__class__")))
    (hm_Speech : PySem.W.mroIn K CS (.type "object") = some true)
    (a_Wall : PySem.W.nsIn K mainGlobals "Wall" = some (some (.ref CW)))
    (pg_Wall : PySem.W.plainGet K CW Str.empty = true)
    (hd_Wall : PySem.W.hasDictIn K CW = true)
    (po_Wall : PySem.W.plainOver K CW = true)
    (sa_Wall : PySem.W.findIn K (.ref CW) "__setattr__" = some (some (.builtin "object.__setattr__")))
    (mk_Wall : PySem.W.makesIn K CW = true)
    (kc_Wall : PySem.W.keepIn K (.ref CW) = true)
    (n_Wall_own_marks : PySem.W.findIn K (.ref CW) "own_marks" = some none)
    (n_Wall_sounds : PySem.W.findIn K (.ref CW) "sounds" = some none)
    (n_Wall_all_marks : PySem.W.findIn K (.ref CW) "all_marks" = some none)
    (ha_Wall : PySem.W.findIn K (.ref CW) "__class__" = some (some (.builtin "object.__class__")))
    (hm_Wall : PySem.W.mroIn K CW (.type "object") = some true)
    (a_Hearing : PySem.W.nsIn K mainGlobals "Hearing" = some (some (.ref CH)))
    (pg_Hearing : PySem.W.plainGet K CH Str.empty = true)
    (hd_Hearing : PySem.W.hasDictIn K CH = true)
    (po_Hearing : PySem.W.plainOver K CH = true)
    (sa_Hearing : PySem.W.findIn K (.ref CH) "__setattr__" = some (some (.builtin "object.__setattr__")))
    (mk_Hearing : PySem.W.makesIn K CH = true)
    (kc_Hearing : PySem.W.keepIn K (.ref CH) = true)
    (n_Hearing_speech : PySem.W.findIn K (.ref CH) "speech" = some none)
    (n_Hearing_wall : PySem.W.findIn K (.ref CH) "wall" = some none)
    (n_Hearing_unheard : PySem.W.findIn K (.ref CH) "unheard" = some none)
    (n_Hearing_led : PySem.W.findIn K (.ref CH) "led" = some none)
    (hn_class : PySem.W.specialIn K (.builtin "object.__class__") "__get__" = some (some (.builtin "getset_descriptor.__get__")))
    (ht_class : PySem.W.takesIn K (.builtin "object.__class__") = some true)
    (a_is_integer : PySem.W.nsIn K mainGlobals "is_integer" = some (some (.ref f_is_integer)))
    (l_is_integer : K.lookup f_is_integer = some ⟨oc_is_integer, od_is_integer, .func (PySem.W.fnOf "is_integer" "is_integer" (defArgs s_is_integer) (defBody s_is_integer) (defScope s_is_integer) .none kV_is_integer dc_is_integer pm_is_integer an_is_integer cd_is_integer ct_is_integer), sl_is_integer⟩)
    (c_is_integer : PySem.W.codeIn K cd_is_integer "is_integer" = true)
    (k_is_integer : PySem.W.keepIn K (.ref f_is_integer) = true)
    (a_is_within : PySem.W.nsIn K mainGlobals "is_within" = some (some (.ref f_is_within)))
    (l_is_within : K.lookup f_is_within = some ⟨oc_is_within, od_is_within, .func (PySem.W.fnOf "is_within" "is_within" (defArgs s_is_within) (defBody s_is_within) (defScope s_is_within) .none kV_is_within dc_is_within pm_is_within an_is_within cd_is_within ct_is_within), sl_is_within⟩)
    (c_is_within : PySem.W.codeIn K cd_is_within "is_within" = true)
    (k_is_within : PySem.W.keepIn K (.ref f_is_within) = true)
    (a_is_listed : PySem.W.nsIn K mainGlobals "is_listed" = some (some (.ref f_is_listed)))
    (l_is_listed : K.lookup f_is_listed = some ⟨oc_is_listed, od_is_listed, .func (PySem.W.fnOf "is_listed" "is_listed" (defArgs s_is_listed) (defBody s_is_listed) (defScope s_is_listed) .none kV_is_listed dc_is_listed pm_is_listed an_is_listed cd_is_listed ct_is_listed), sl_is_listed⟩)
    (c_is_listed : PySem.W.codeIn K cd_is_listed "is_listed" = true)
    (k_is_listed : PySem.W.keepIn K (.ref f_is_listed) = true)
    (a_is_sound : PySem.W.nsIn K mainGlobals "is_sound" = some (some (.ref f_is_sound)))
    (l_is_sound : K.lookup f_is_sound = some ⟨oc_is_sound, od_is_sound, .func (PySem.W.fnOf "is_sound" "is_sound" (defArgs s_is_sound) (defBody s_is_sound) (defScope s_is_sound) .none kV_is_sound dc_is_sound pm_is_sound an_is_sound cd_is_sound ct_is_sound), sl_is_sound⟩)
    (c_is_sound : PySem.W.codeIn K cd_is_sound "is_sound" = true)
    (k_is_sound : PySem.W.keepIn K (.ref f_is_sound) = true)
    (a_ascends : PySem.W.nsIn K mainGlobals "ascends" = some (some (.ref f_ascends)))
    (l_ascends : K.lookup f_ascends = some ⟨oc_ascends, od_ascends, .func (PySem.W.fnOf "ascends" "ascends" (defArgs s_ascends) (defBody s_ascends) (defScope s_ascends) .none kV_ascends dc_ascends pm_ascends an_ascends cd_ascends ct_ascends), sl_ascends⟩)
    (c_ascends : PySem.W.codeIn K cd_ascends "ascends" = true)
    (k_ascends : PySem.W.keepIn K (.ref f_ascends) = true)
    (a_is_mark : PySem.W.nsIn K mainGlobals "is_mark" = some (some (.ref f_is_mark)))
    (l_is_mark : K.lookup f_is_mark = some ⟨oc_is_mark, od_is_mark, .func (PySem.W.fnOf "is_mark" "is_mark" (defArgs s_is_mark) (defBody s_is_mark) (defScope s_is_mark) .none kV_is_mark dc_is_mark pm_is_mark an_is_mark cd_is_mark ct_is_mark), sl_is_mark⟩)
    (c_is_mark : PySem.W.codeIn K cd_is_mark "is_mark" = true)
    (k_is_mark : PySem.W.keepIn K (.ref f_is_mark) = true)
    (a_is_heard : PySem.W.nsIn K mainGlobals "is_heard" = some (some (.ref f_is_heard)))
    (l_is_heard : K.lookup f_is_heard = some ⟨oc_is_heard, od_is_heard, .func (PySem.W.fnOf "is_heard" "is_heard" (defArgs s_is_heard) (defBody s_is_heard) (defScope s_is_heard) .none kV_is_heard dc_is_heard pm_is_heard an_is_heard cd_is_heard ct_is_heard), sl_is_heard⟩)
    (c_is_heard : PySem.W.codeIn K cd_is_heard "is_heard" = true)
    (k_is_heard : PySem.W.keepIn K (.ref f_is_heard) = true)
    (a_is_lot : PySem.W.nsIn K mainGlobals "is_lot" = some (some (.ref f_is_lot)))
    (l_is_lot : K.lookup f_is_lot = some ⟨oc_is_lot, od_is_lot, .func (PySem.W.fnOf "is_lot" "is_lot" (defArgs s_is_lot) (defBody s_is_lot) (defScope s_is_lot) .none kV_is_lot dc_is_lot pm_is_lot an_is_lot cd_is_lot ct_is_lot), sl_is_lot⟩)
    (c_is_lot : PySem.W.codeIn K cd_is_lot "is_lot" = true)
    (k_is_lot : PySem.W.keepIn K (.ref f_is_lot) = true)
    (a_is_inside : PySem.W.nsIn K mainGlobals "is_inside" = some (some (.ref f_is_inside)))
    (l_is_inside : K.lookup f_is_inside = some ⟨oc_is_inside, od_is_inside, .func (PySem.W.fnOf "is_inside" "is_inside" (defArgs s_is_inside) (defBody s_is_inside) (defScope s_is_inside) .none kV_is_inside dc_is_inside pm_is_inside an_is_inside cd_is_inside ct_is_inside), sl_is_inside⟩)
    (c_is_inside : PySem.W.codeIn K cd_is_inside "is_inside" = true)
    (k_is_inside : PySem.W.keepIn K (.ref f_is_inside) = true)
    (a_is_arrow : PySem.W.nsIn K mainGlobals "is_arrow" = some (some (.ref f_is_arrow)))
    (l_is_arrow : K.lookup f_is_arrow = some ⟨oc_is_arrow, od_is_arrow, .func (PySem.W.fnOf "is_arrow" "is_arrow" (defArgs s_is_arrow) (defBody s_is_arrow) (defScope s_is_arrow) .none kV_is_arrow dc_is_arrow pm_is_arrow an_is_arrow cd_is_arrow ct_is_arrow), sl_is_arrow⟩)
    (c_is_arrow : PySem.W.codeIn K cd_is_arrow "is_arrow" = true)
    (k_is_arrow : PySem.W.keepIn K (.ref f_is_arrow) = true)
    (a_Speech___init__ : PySem.W.findIn K (.ref CS) "__init__" = some (some (.ref f_Speech___init__)))
    (i_Speech___init__ : PySem.W.isFn K (.ref f_Speech___init__) = true)
    (l_Speech___init__ : K.lookup f_Speech___init__ = some ⟨oc_Speech___init__, od_Speech___init__, .func (PySem.W.fnOf "__init__" "Speech.__init__" (defArgs s_Speech___init__) (defBody s_Speech___init__) (defScope s_Speech___init__) .none kV_Speech___init__ dc_Speech___init__ pm_Speech___init__ an_Speech___init__ cd_Speech___init__ ct_Speech___init__), sl_Speech___init__⟩)
    (c_Speech___init__ : PySem.W.codeIn K cd_Speech___init__ "Speech.__init__" = true)
    (k_Speech___init__ : PySem.W.keepIn K (.ref f_Speech___init__) = true)
    (a_are_marks : PySem.W.nsIn K mainGlobals "are_marks" = some (some (.ref f_are_marks)))
    (l_are_marks : K.lookup f_are_marks = some ⟨oc_are_marks, od_are_marks, .func (PySem.W.fnOf "are_marks" "are_marks" (defArgs s_are_marks) (defBody s_are_marks) (defScope s_are_marks) .none kV_are_marks dc_are_marks pm_are_marks an_are_marks cd_are_marks ct_are_marks), sl_are_marks⟩)
    (c_are_marks : PySem.W.codeIn K cd_are_marks "are_marks" = true)
    (k_are_marks : PySem.W.keepIn K (.ref f_are_marks) = true)
    (a_Wall___init__ : PySem.W.findIn K (.ref CW) "__init__" = some (some (.ref f_Wall___init__)))
    (i_Wall___init__ : PySem.W.isFn K (.ref f_Wall___init__) = true)
    (l_Wall___init__ : K.lookup f_Wall___init__ = some ⟨oc_Wall___init__, od_Wall___init__, .func (PySem.W.fnOf "__init__" "Wall.__init__" (defArgs s_Wall___init__) (defBody s_Wall___init__) (defScope s_Wall___init__) .none kV_Wall___init__ dc_Wall___init__ pm_Wall___init__ an_Wall___init__ cd_Wall___init__ ct_Wall___init__), sl_Wall___init__⟩)
    (c_Wall___init__ : PySem.W.codeIn K cd_Wall___init__ "Wall.__init__" = true)
    (k_Wall___init__ : PySem.W.keepIn K (.ref f_Wall___init__) = true)
    (a_need_speech : PySem.W.nsIn K mainGlobals "need_speech" = some (some (.ref f_need_speech)))
    (l_need_speech : K.lookup f_need_speech = some ⟨oc_need_speech, od_need_speech, .func (PySem.W.fnOf "need_speech" "need_speech" (defArgs s_need_speech) (defBody s_need_speech) (defScope s_need_speech) (.ref T_need_speech) kV_need_speech dc_need_speech pm_need_speech an_need_speech cd_need_speech ct_need_speech), sl_need_speech⟩)
    (c_need_speech : PySem.W.codeIn K cd_need_speech "need_speech" = true)
    (k_need_speech : PySem.W.keepIn K (.ref f_need_speech) = true)
    (lT_need_speech : K.lookup T_need_speech = some ⟨tc_need_speech, td_need_speech, .seq #[Value.str "speech" uT_need_speech] tn_need_speech, ts_need_speech⟩)
    (a_need_wall : PySem.W.nsIn K mainGlobals "need_wall" = some (some (.ref f_need_wall)))
    (l_need_wall : K.lookup f_need_wall = some ⟨oc_need_wall, od_need_wall, .func (PySem.W.fnOf "need_wall" "need_wall" (defArgs s_need_wall) (defBody s_need_wall) (defScope s_need_wall) .none kV_need_wall dc_need_wall pm_need_wall an_need_wall cd_need_wall ct_need_wall), sl_need_wall⟩)
    (c_need_wall : PySem.W.codeIn K cd_need_wall "need_wall" = true)
    (k_need_wall : PySem.W.keepIn K (.ref f_need_wall) = true)
    (a_Hearing___init__ : PySem.W.findIn K (.ref CH) "__init__" = some (some (.ref f_Hearing___init__)))
    (i_Hearing___init__ : PySem.W.isFn K (.ref f_Hearing___init__) = true)
    (l_Hearing___init__ : K.lookup f_Hearing___init__ = some ⟨oc_Hearing___init__, od_Hearing___init__, .func (PySem.W.fnOf "__init__" "Hearing.__init__" (defArgs s_Hearing___init__) (defBody s_Hearing___init__) (defScope s_Hearing___init__) .none kV_Hearing___init__ dc_Hearing___init__ pm_Hearing___init__ an_Hearing___init__ cd_Hearing___init__ ct_Hearing___init__), sl_Hearing___init__⟩)
    (c_Hearing___init__ : PySem.W.codeIn K cd_Hearing___init__ "Hearing.__init__" = true)
    (k_Hearing___init__ : PySem.W.keepIn K (.ref f_Hearing___init__) = true)
    (a_Hearing_closed : PySem.W.findIn K (.ref CH) "closed" = some (some (.ref f_Hearing_closed)))
    (i_Hearing_closed : PySem.W.isFn K (.ref f_Hearing_closed) = true)
    (l_Hearing_closed : K.lookup f_Hearing_closed = some ⟨oc_Hearing_closed, od_Hearing_closed, .func (PySem.W.fnOf "closed" "Hearing.closed" (defArgs s_Hearing_closed) (defBody s_Hearing_closed) (defScope s_Hearing_closed) .none kV_Hearing_closed dc_Hearing_closed pm_Hearing_closed an_Hearing_closed cd_Hearing_closed ct_Hearing_closed), sl_Hearing_closed⟩)
    (c_Hearing_closed : PySem.W.codeIn K cd_Hearing_closed "Hearing.closed" = true)
    (k_Hearing_closed : PySem.W.keepIn K (.ref f_Hearing_closed) = true)
    (a_Hearing_begun : PySem.W.findIn K (.ref CH) "begun" = some (some (.ref f_Hearing_begun)))
    (i_Hearing_begun : PySem.W.isFn K (.ref f_Hearing_begun) = true)
    (l_Hearing_begun : K.lookup f_Hearing_begun = some ⟨oc_Hearing_begun, od_Hearing_begun, .func (PySem.W.fnOf "begun" "Hearing.begun" (defArgs s_Hearing_begun) (defBody s_Hearing_begun) (defScope s_Hearing_begun) .none kV_Hearing_begun dc_Hearing_begun pm_Hearing_begun an_Hearing_begun cd_Hearing_begun ct_Hearing_begun), sl_Hearing_begun⟩)
    (c_Hearing_begun : PySem.W.codeIn K cd_Hearing_begun "Hearing.begun" = true)
    (k_Hearing_begun : PySem.W.keepIn K (.ref f_Hearing_begun) = true)
    (a_Hearing_behind : PySem.W.findIn K (.ref CH) "behind" = some (some (.ref f_Hearing_behind)))
    (i_Hearing_behind : PySem.W.isFn K (.ref f_Hearing_behind) = true)
    (l_Hearing_behind : K.lookup f_Hearing_behind = some ⟨oc_Hearing_behind, od_Hearing_behind, .func (PySem.W.fnOf "behind" "Hearing.behind" (defArgs s_Hearing_behind) (defBody s_Hearing_behind) (defScope s_Hearing_behind) .none kV_Hearing_behind dc_Hearing_behind pm_Hearing_behind an_Hearing_behind cd_Hearing_behind ct_Hearing_behind), sl_Hearing_behind⟩)
    (c_Hearing_behind : PySem.W.codeIn K cd_Hearing_behind "Hearing.behind" = true)
    (k_Hearing_behind : PySem.W.keepIn K (.ref f_Hearing_behind) = true)
    (a_need_hearing : PySem.W.nsIn K mainGlobals "need_hearing" = some (some (.ref f_need_hearing)))
    (l_need_hearing : K.lookup f_need_hearing = some ⟨oc_need_hearing, od_need_hearing, .func (PySem.W.fnOf "need_hearing" "need_hearing" (defArgs s_need_hearing) (defBody s_need_hearing) (defScope s_need_hearing) .none kV_need_hearing dc_need_hearing pm_need_hearing an_need_hearing cd_need_hearing ct_need_hearing), sl_need_hearing⟩)
    (c_need_hearing : PySem.W.codeIn K cd_need_hearing "need_hearing" = true)
    (k_need_hearing : PySem.W.keepIn K (.ref f_need_hearing) = true)
    (a_need_places : PySem.W.nsIn K mainGlobals "need_places" = some (some (.ref f_need_places)))
    (l_need_places : K.lookup f_need_places = some ⟨oc_need_places, od_need_places, .func (PySem.W.fnOf "need_places" "need_places" (defArgs s_need_places) (defBody s_need_places) (defScope s_need_places) .none kV_need_places dc_need_places pm_need_places an_need_places cd_need_places ct_need_places), sl_need_places⟩)
    (c_need_places : PySem.W.codeIn K cd_need_places "need_places" = true)
    (k_need_places : PySem.W.keepIn K (.ref f_need_places) = true)
    (a_need_row : PySem.W.nsIn K mainGlobals "need_row" = some (some (.ref f_need_row)))
    (l_need_row : K.lookup f_need_row = some ⟨oc_need_row, od_need_row, .func (PySem.W.fnOf "need_row" "need_row" (defArgs s_need_row) (defBody s_need_row) (defScope s_need_row) .none kV_need_row dc_need_row pm_need_row an_need_row cd_need_row ct_need_row), sl_need_row⟩)
    (c_need_row : PySem.W.codeIn K cd_need_row "need_row" = true)
    (k_need_row : PySem.W.keepIn K (.ref f_need_row) = true)
    (a_silent : PySem.W.nsIn K mainGlobals "silent" = some (some (.ref f_silent)))
    (l_silent : K.lookup f_silent = some ⟨oc_silent, od_silent, .func (PySem.W.fnOf "silent" "silent" (defArgs s_silent) (defBody s_silent) (defScope s_silent) .none kV_silent dc_silent pm_silent an_silent cd_silent ct_silent), sl_silent⟩)
    (c_silent : PySem.W.codeIn K cd_silent "silent" = true)
    (k_silent : PySem.W.keepIn K (.ref f_silent) = true)
    (a_after : PySem.W.nsIn K mainGlobals "after" = some (some (.ref f_after)))
    (l_after : K.lookup f_after = some ⟨oc_after, od_after, .func (PySem.W.fnOf "after" "after" (defArgs s_after) (defBody s_after) (defScope s_after) .none kV_after dc_after pm_after an_after cd_after ct_after), sl_after⟩)
    (c_after : PySem.W.codeIn K cd_after "after" = true)
    (k_after : PySem.W.keepIn K (.ref f_after) = true)
    (a_known : PySem.W.nsIn K mainGlobals "known" = some (some (.ref f_known)))
    (l_known : K.lookup f_known = some ⟨oc_known, od_known, .func (PySem.W.fnOf "known" "known" (defArgs s_known) (defBody s_known) (defScope s_known) (.ref T_known) kV_known dc_known pm_known an_known cd_known ct_known), sl_known⟩)
    (c_known : PySem.W.codeIn K cd_known "known" = true)
    (k_known : PySem.W.keepIn K (.ref f_known) = true)
    (lT_known : K.lookup T_known = some ⟨tc_known, td_known, .seq #[Value.ref E_known] tn_known, ts_known⟩)
    (a__law_pen : PySem.W.nsIn K mainGlobals "_law_pen" = some (some (.ref f__law_pen)))
    (l__law_pen : K.lookup f__law_pen = some ⟨oc__law_pen, od__law_pen, .func (PySem.W.fnOf "_law_pen" "_law_pen" (defArgs s__law_pen) (defBody s__law_pen) (defScope s__law_pen) .none kV__law_pen dc__law_pen pm__law_pen an__law_pen cd__law_pen ct__law_pen), sl__law_pen⟩)
    (c__law_pen : PySem.W.codeIn K cd__law_pen "_law_pen" = true)
    (k__law_pen : PySem.W.keepIn K (.ref f__law_pen) = true)
    (a__law_draw : PySem.W.nsIn K mainGlobals "_law_draw" = some (some (.ref f__law_draw)))
    (l__law_draw : K.lookup f__law_draw = some ⟨oc__law_draw, od__law_draw, .func (PySem.W.fnOf "_law_draw" "_law_draw" (defArgs s__law_draw) (defBody s__law_draw) (defScope s__law_draw) .none kV__law_draw dc__law_draw pm__law_draw an__law_draw cd__law_draw ct__law_draw), sl__law_draw⟩)
    (c__law_draw : PySem.W.codeIn K cd__law_draw "_law_draw" = true)
    (k__law_draw : PySem.W.keepIn K (.ref f__law_draw) = true)
    (a__law_pick : PySem.W.nsIn K mainGlobals "_law_pick" = some (some (.ref f__law_pick)))
    (l__law_pick : K.lookup f__law_pick = some ⟨oc__law_pick, od__law_pick, .func (PySem.W.fnOf "_law_pick" "_law_pick" (defArgs s__law_pick) (defBody s__law_pick) (defScope s__law_pick) .none kV__law_pick dc__law_pick pm__law_pick an__law_pick cd__law_pick ct__law_pick), sl__law_pick⟩)
    (c__law_pick : PySem.W.codeIn K cd__law_pick "_law_pick" = true)
    (k__law_pick : PySem.W.keepIn K (.ref f__law_pick) = true)
    (a__law_shuffled : PySem.W.nsIn K mainGlobals "_law_shuffled" = some (some (.ref f__law_shuffled)))
    (l__law_shuffled : K.lookup f__law_shuffled = some ⟨oc__law_shuffled, od__law_shuffled, .func (PySem.W.fnOf "_law_shuffled" "_law_shuffled" (defArgs s__law_shuffled) (defBody s__law_shuffled) (defScope s__law_shuffled) .none kV__law_shuffled dc__law_shuffled pm__law_shuffled an__law_shuffled cd__law_shuffled ct__law_shuffled), sl__law_shuffled⟩)
    (c__law_shuffled : PySem.W.codeIn K cd__law_shuffled "_law_shuffled" = true)
    (k__law_shuffled : PySem.W.keepIn K (.ref f__law_shuffled) = true)
    (a__law_some : PySem.W.nsIn K mainGlobals "_law_some" = some (some (.ref f__law_some)))
    (l__law_some : K.lookup f__law_some = some ⟨oc__law_some, od__law_some, .func (PySem.W.fnOf "_law_some" "_law_some" (defArgs s__law_some) (defBody s__law_some) (defScope s__law_some) .none kV__law_some dc__law_some pm__law_some an__law_some cd__law_some ct__law_some), sl__law_some⟩)
    (c__law_some : PySem.W.codeIn K cd__law_some "_law_some" = true)
    (k__law_some : PySem.W.keepIn K (.ref f__law_some) = true)
    (a__law_arrows : PySem.W.nsIn K mainGlobals "_law_arrows" = some (some (.ref f__law_arrows)))
    (l__law_arrows : K.lookup f__law_arrows = some ⟨oc__law_arrows, od__law_arrows, .func (PySem.W.fnOf "_law_arrows" "_law_arrows" (defArgs s__law_arrows) (defBody s__law_arrows) (defScope s__law_arrows) .none kV__law_arrows dc__law_arrows pm__law_arrows an__law_arrows cd__law_arrows ct__law_arrows), sl__law_arrows⟩)
    (c__law_arrows : PySem.W.codeIn K cd__law_arrows "_law_arrows" = true)
    (k__law_arrows : PySem.W.keepIn K (.ref f__law_arrows) = true)
    (a__law_marks : PySem.W.nsIn K mainGlobals "_law_marks" = some (some (.ref f__law_marks)))
    (l__law_marks : K.lookup f__law_marks = some ⟨oc__law_marks, od__law_marks, .func (PySem.W.fnOf "_law_marks" "_law_marks" (defArgs s__law_marks) (defBody s__law_marks) (defScope s__law_marks) (.ref T__law_marks) kV__law_marks dc__law_marks pm__law_marks an__law_marks cd__law_marks ct__law_marks), sl__law_marks⟩)
    (c__law_marks : PySem.W.codeIn K cd__law_marks "_law_marks" = true)
    (k__law_marks : PySem.W.keepIn K (.ref f__law_marks) = true)
    (lT__law_marks : K.lookup T__law_marks = some ⟨tc__law_marks, td__law_marks, .seq #[Value.bool false] tn__law_marks, ts__law_marks⟩)
    (a__law_plain : PySem.W.nsIn K mainGlobals "_law_plain" = some (some (.ref f__law_plain)))
    (l__law_plain : K.lookup f__law_plain = some ⟨oc__law_plain, od__law_plain, .func (PySem.W.fnOf "_law_plain" "_law_plain" (defArgs s__law_plain) (defBody s__law_plain) (defScope s__law_plain) .none kV__law_plain dc__law_plain pm__law_plain an__law_plain cd__law_plain ct__law_plain), sl__law_plain⟩)
    (c__law_plain : PySem.W.codeIn K cd__law_plain "_law_plain" = true)
    (k__law_plain : PySem.W.keepIn K (.ref f__law_plain) = true)
    (a__law_places : PySem.W.nsIn K mainGlobals "_law_places" = some (some (.ref f__law_places)))
    (l__law_places : K.lookup f__law_places = some ⟨oc__law_places, od__law_places, .func (PySem.W.fnOf "_law_places" "_law_places" (defArgs s__law_places) (defBody s__law_places) (defScope s__law_places) .none kV__law_places dc__law_places pm__law_places an__law_places cd__law_places ct__law_places), sl__law_places⟩)
    (c__law_places : PySem.W.codeIn K cd__law_places "_law_places" = true)
    (k__law_places : PySem.W.keepIn K (.ref f__law_places) = true)
    (a__law_closed : PySem.W.nsIn K mainGlobals "_law_closed" = some (some (.ref f__law_closed)))
    (l__law_closed : K.lookup f__law_closed = some ⟨oc__law_closed, od__law_closed, .func (PySem.W.fnOf "_law_closed" "_law_closed" (defArgs s__law_closed) (defBody s__law_closed) (defScope s__law_closed) .none kV__law_closed dc__law_closed pm__law_closed an__law_closed cd__law_closed ct__law_closed), sl__law_closed⟩)
    (c__law_closed : PySem.W.codeIn K cd__law_closed "_law_closed" = true)
    (k__law_closed : PySem.W.keepIn K (.ref f__law_closed) = true)
    (a__law_behind : PySem.W.nsIn K mainGlobals "_law_behind" = some (some (.ref f__law_behind)))
    (l__law_behind : K.lookup f__law_behind = some ⟨oc__law_behind, od__law_behind, .func (PySem.W.fnOf "_law_behind" "_law_behind" (defArgs s__law_behind) (defBody s__law_behind) (defScope s__law_behind) .none kV__law_behind dc__law_behind pm__law_behind an__law_behind cd__law_behind ct__law_behind), sl__law_behind⟩)
    (c__law_behind : PySem.W.codeIn K cd__law_behind "_law_behind" = true)
    (k__law_behind : PySem.W.keepIn K (.ref f__law_behind) = true)
    (a__law_all_marks : PySem.W.nsIn K mainGlobals "_law_all_marks" = some (some (.ref f__law_all_marks)))
    (l__law_all_marks : K.lookup f__law_all_marks = some ⟨oc__law_all_marks, od__law_all_marks, .func (PySem.W.fnOf "_law_all_marks" "_law_all_marks" (defArgs s__law_all_marks) (defBody s__law_all_marks) (defScope s__law_all_marks) .none kV__law_all_marks dc__law_all_marks pm__law_all_marks an__law_all_marks cd__law_all_marks ct__law_all_marks), sl__law_all_marks⟩)
    (c__law_all_marks : PySem.W.codeIn K cd__law_all_marks "_law_all_marks" = true)
    (k__law_all_marks : PySem.W.keepIn K (.ref f__law_all_marks) = true)
    (a__law_one_right : PySem.W.nsIn K mainGlobals "_law_one_right" = some (some (.ref f__law_one_right)))
    (l__law_one_right : K.lookup f__law_one_right = some ⟨oc__law_one_right, od__law_one_right, .func (PySem.W.fnOf "_law_one_right" "_law_one_right" (defArgs s__law_one_right) (defBody s__law_one_right) (defScope s__law_one_right) .none kV__law_one_right dc__law_one_right pm__law_one_right an__law_one_right cd__law_one_right ct__law_one_right), sl__law_one_right⟩)
    (c__law_one_right : PySem.W.codeIn K cd__law_one_right "_law_one_right" = true)
    (k__law_one_right : PySem.W.keepIn K (.ref f__law_one_right) = true)
    (a_law : PySem.W.nsIn K mainGlobals "law" = some (some (.ref f_law)))
    (l_law : K.lookup f_law = some ⟨oc_law, od_law, .func (PySem.W.fnOf "law" "law" (defArgs s_law) (defBody s_law) (defScope s_law) .none kV_law dc_law pm_law an_law cd_law ct_law), sl_law⟩)
    (c_law : PySem.W.codeIn K cd_law "law" = true)
    (k_law : PySem.W.keepIn K (.ref f_law) = true)
    (z_isinstance : PySem.W.nsIn K mainGlobals "isinstance" = some none)
    (z_len : PySem.W.nsIn K mainGlobals "len" = some none)
    (z_all : PySem.W.nsIn K mainGlobals "all" = some none)
    (z_any : PySem.W.nsIn K mainGlobals "any" = some none)
    (z_sorted : PySem.W.nsIn K mainGlobals "sorted" = some none)
    (z_zip : PySem.W.nsIn K mainGlobals "zip" = some none)
    (z_enumerate : PySem.W.nsIn K mainGlobals "enumerate" = some none)
    (z_range : PySem.W.nsIn K mainGlobals "range" = some none)
    (z_abs : PySem.W.nsIn K mainGlobals "abs" = some none)
    (z_set : PySem.W.nsIn K mainGlobals "set" = some none)
    (z_tuple : PySem.W.nsIn K mainGlobals "tuple" = some none)
    (z_list : PySem.W.nsIn K mainGlobals "list" = some none)
    (z_dict : PySem.W.nsIn K mainGlobals "dict" = some none)
    (z_int : PySem.W.nsIn K mainGlobals "int" = some none)
    (z_bool : PySem.W.nsIn K mainGlobals "bool" = some none)
    (z_str : PySem.W.nsIn K mainGlobals "str" = some none)
    (z_SIGNS : PySem.W.nsIn K mainGlobals "SIGNS" = some (some (.str "abcdefghijklmnopqrstuvwxyz" tk_SIGNS)))
    (z_MARK_SIGNS : PySem.W.nsIn K mainGlobals "MARK_SIGNS" = some (some (.str "abcdefghijklmnopqrstuvwxyz+-" tk_MARK_SIGNS)))
    (z_MOST_SIGNS : PySem.W.nsIn K mainGlobals "MOST_SIGNS" = some (some (.int 8 tk_MOST_SIGNS)))
    (z_MOST_PLACE : PySem.W.nsIn K mainGlobals "MOST_PLACE" = some (some (.int 399 tk_MOST_PLACE)))
    (z_MOST_ARROWS : PySem.W.nsIn K mainGlobals "MOST_ARROWS" = some (some (.int 2000 tk_MOST_ARROWS)))
    (z_ARROW : PySem.W.nsIn K mainGlobals "ARROW" = some (some (.int 3 tk_ARROW)))
    (z_MOST_MARKS : PySem.W.nsIn K mainGlobals "MOST_MARKS" = some (some (.int 6 tk_MOST_MARKS)))
    : ∃ fd : FuncData, (∀ (s : Shared) (v : Value), BindsTo s fd ⟨[v], []⟩ [("script", v)]) ∧ ∀ base : Heap, K.In base → base.Ns mainGlobals mg → FnOk l.prog w K mg base CX0 10 fa fd ["script"] (spLaw K) := by
  have e := hfa.symm.trans (PySem.W.mg_of X G a_law)
  cases e
  have T : Txt mg := ⟨PySem.W.mg_none_of X G z_isinstance, PySem.W.mg_none_of X G z_len, PySem.W.mg_none_of X G z_all, PySem.W.mg_none_of X G z_any, PySem.W.mg_none_of X G z_sorted, PySem.W.mg_none_of X G z_zip, PySem.W.mg_none_of X G z_enumerate, PySem.W.mg_none_of X G z_range, PySem.W.mg_none_of X G z_abs, PySem.W.mg_none_of X G z_set, PySem.W.mg_none_of X G z_tuple, PySem.W.mg_none_of X G z_list, PySem.W.mg_none_of X G z_dict, PySem.W.mg_none_of X G z_int, PySem.W.mg_none_of X G z_bool, PySem.W.mg_none_of X G z_str, cons_of X G z_SIGNS ⟨_, rfl⟩, cons_of X G z_MARK_SIGNS ⟨_, rfl⟩, cons_of X G z_MOST_SIGNS ⟨_, rfl⟩, cons_of X G z_MOST_PLACE ⟨_, rfl⟩, cons_of X G z_MOST_ARROWS ⟨_, rfl⟩, cons_of X G z_ARROW ⟨_, rfl⟩, cons_of X G z_MOST_MARKS ⟨_, rfl⟩⟩
  have cl_Speech : Cls K CS := ⟨pg_Speech, hd_Speech, po_Speech, sa_Speech⟩
  have TS : SpC K CS := ⟨cl_Speech, n_Speech_arrows, n_Speech_starts, n_Speech_places, n_Speech_sounds, n_Speech_own_from⟩
  have g_Speech := PySem.W.mg_of X G a_Speech
  have IS : InsC K CS := ⟨cl_Speech, ha_Speech, hn_class, ht_class, hm_Speech⟩
  have cl_Wall : Cls K CW := ⟨pg_Wall, hd_Wall, po_Wall, sa_Wall⟩
  have TW_ : WaC K CW := ⟨cl_Wall, n_Wall_own_marks, n_Wall_sounds, n_Wall_all_marks⟩
  have g_Wall := PySem.W.mg_of X G a_Wall
  have IW : InsC K CW := ⟨cl_Wall, ha_Wall, hn_class, ht_class, hm_Wall⟩
  have cl_Hearing : Cls K CH := ⟨pg_Hearing, hd_Hearing, po_Hearing, sa_Hearing⟩
  have TH : HeC K CH := ⟨cl_Hearing, n_Hearing_speech, n_Hearing_wall, n_Hearing_unheard, n_Hearing_led⟩
  have g_Hearing := PySem.W.mg_of X G a_Hearing
  have F_is_integer := fun_mk (st := s_is_integer) l_is_integer c_is_integer k_is_integer
  have F_is_within := fun_mk (st := s_is_within) l_is_within c_is_within k_is_within
  have F_is_listed := fun_mk (st := s_is_listed) l_is_listed c_is_listed k_is_listed
  have F_is_sound := fun_mk (st := s_is_sound) l_is_sound c_is_sound k_is_sound
  have F_ascends := fun_mk (st := s_ascends) l_ascends c_ascends k_ascends
  have F_is_mark := fun_mk (st := s_is_mark) l_is_mark c_is_mark k_is_mark
  have F_is_heard := fun_mk (st := s_is_heard) l_is_heard c_is_heard k_is_heard
  have F_is_lot := fun_mk (st := s_is_lot) l_is_lot c_is_lot k_is_lot
  have F_is_inside := fun_mk (st := s_is_inside) l_is_inside c_is_inside k_is_inside
  have F_is_arrow := fun_mk (st := s_is_arrow) l_is_arrow c_is_arrow k_is_arrow
  have F_Speech___init__ := fun_mk (st := s_Speech___init__) l_Speech___init__ c_Speech___init__ k_Speech___init__
  have F_are_marks := fun_mk (st := s_are_marks) l_are_marks c_are_marks k_are_marks
  have F_Wall___init__ := fun_mk (st := s_Wall___init__) l_Wall___init__ c_Wall___init__ k_Wall___init__
  have F_need_speech := fund_mk (st := s_need_speech) (v := .str "speech") l_need_speech c_need_speech k_need_speech lT_need_speech ⟨_, rfl⟩
  have F_need_wall := fun_mk (st := s_need_wall) l_need_wall c_need_wall k_need_wall
  have F_Hearing___init__ := fun_mk (st := s_Hearing___init__) l_Hearing___init__ c_Hearing___init__ k_Hearing___init__
  have F_Hearing_closed := fun_mk (st := s_Hearing_closed) l_Hearing_closed c_Hearing_closed k_Hearing_closed
  have F_Hearing_begun := fun_mk (st := s_Hearing_begun) l_Hearing_begun c_Hearing_begun k_Hearing_begun
  have F_Hearing_behind := fun_mk (st := s_Hearing_behind) l_Hearing_behind c_Hearing_behind k_Hearing_behind
  have F_need_hearing := fun_mk (st := s_need_hearing) l_need_hearing c_need_hearing k_need_hearing
  have F_need_places := fun_mk (st := s_need_places) l_need_places c_need_places k_need_places
  have F_need_row := fun_mk (st := s_need_row) l_need_row c_need_row k_need_row
  have F_silent := fun_mk (st := s_silent) l_silent c_silent k_silent
  have F_after := fun_mk (st := s_after) l_after c_after k_after
  have F_known := fund_mk (st := s_known) (v := .ref E_known) l_known c_known k_known lT_known rfl
  have F__law_pen := fun_mk (st := s__law_pen) l__law_pen c__law_pen k__law_pen
  have F__law_draw := fun_mk (st := s__law_draw) l__law_draw c__law_draw k__law_draw
  have F__law_pick := fun_mk (st := s__law_pick) l__law_pick c__law_pick k__law_pick
  have F__law_shuffled := fun_mk (st := s__law_shuffled) l__law_shuffled c__law_shuffled k__law_shuffled
  have F__law_some := fun_mk (st := s__law_some) l__law_some c__law_some k__law_some
  have F__law_arrows := fun_mk (st := s__law_arrows) l__law_arrows c__law_arrows k__law_arrows
  have F__law_marks := fund_mk (st := s__law_marks) (v := .bl false) l__law_marks c__law_marks k__law_marks lT__law_marks rfl
  have F__law_plain := fun_mk (st := s__law_plain) l__law_plain c__law_plain k__law_plain
  have F__law_places := fun_mk (st := s__law_places) l__law_places c__law_places k__law_places
  have F__law_closed := fun_mk (st := s__law_closed) l__law_closed c__law_closed k__law_closed
  have F__law_behind := fun_mk (st := s__law_behind) l__law_behind c__law_behind k__law_behind
  have F__law_all_marks := fun_mk (st := s__law_all_marks) l__law_all_marks c__law_all_marks k__law_all_marks
  have F__law_one_right := fun_mk (st := s__law_one_right) l__law_one_right c__law_one_right k__law_one_right
  have F_law := fun_mk (st := s_law) l_law c_law k_law
  refine ⟨PySem.W.fnOf "law" "law" (defArgs s_law) (defBody s_law) (defScope s_law) .none kV_law dc_law pm_law an_law cd_law ct_law, fun s v => .of_eq rfl, fun base _ _ => ?_⟩
  have O_is_integer : FnOk l.prog w K mg base CX0 1 f_is_integer _ ["value"] (spIsInt K) := ok_is_integer F_is_integer T
  have b_is_integer : Binds K _ ["value"] [] := F_is_integer.binds fun _ _ _ _ _ _ us hl => match us, hl with | [_], _ => rfl
  have C_is_integer : Cal l.prog w K mg base "is_integer" 1 ["value"] [] (spIsInt K) := cal_of F_is_integer (PySem.W.mg_of X G a_is_integer) b_is_integer O_is_integer
  have O_is_within : FnOk l.prog w K mg base CX0 2 f_is_within _ ["value", "least", "most"] (spWithin K) := ok_is_within F_is_within T C_is_integer
  have b_is_within : Binds K _ ["value", "least", "most"] [] := F_is_within.binds fun _ _ _ _ _ _ us hl => match us, hl with | [_, _, _], _ => rfl
  have C_is_within : Cal l.prog w K mg base "is_within" 2 ["value", "least", "most"] [] (spWithin K) := cal_of F_is_within (PySem.W.mg_of X G a_is_within) b_is_within O_is_within
  have O_is_listed : FnOk l.prog w K mg base CX0 1 f_is_listed _ ["value"] (spListed K) := ok_is_listed F_is_listed T
  have b_is_listed : Binds K _ ["value"] [] := F_is_listed.binds fun _ _ _ _ _ _ us hl => match us, hl with | [_], _ => rfl
  have C_is_listed : Cal l.prog w K mg base "is_listed" 1 ["value"] [] (spListed K) := cal_of F_is_listed (PySem.W.mg_of X G a_is_listed) b_is_listed O_is_listed
  have O_is_sound : FnOk l.prog w K mg base CX0 1 f_is_sound _ ["value"] (spSound K) := ok_is_sound F_is_sound T
  have b_is_sound : Binds K _ ["value"] [] := F_is_sound.binds fun _ _ _ _ _ _ us hl => match us, hl with | [_], _ => rfl
  have C_is_sound : Cal l.prog w K mg base "is_sound" 1 ["value"] [] (spSound K) := cal_of F_is_sound (PySem.W.mg_of X G a_is_sound) b_is_sound O_is_sound
  have O_ascends : FnOk l.prog w K mg base CX0 1 f_ascends _ ["value"] (spAsc K) := ok_ascends F_ascends T
  have b_ascends : Binds K _ ["value"] [] := F_ascends.binds fun _ _ _ _ _ _ us hl => match us, hl with | [_], _ => rfl
  have C_ascends : Cal l.prog w K mg base "ascends" 1 ["value"] [] (spAsc K) := cal_of F_ascends (PySem.W.mg_of X G a_ascends) b_ascends O_ascends
  have O_is_mark : FnOk l.prog w K mg base CX0 1 f_is_mark _ ["value"] (spMark K) := ok_is_mark F_is_mark T
  have b_is_mark : Binds K _ ["value"] [] := F_is_mark.binds fun _ _ _ _ _ _ us hl => match us, hl with | [_], _ => rfl
  have C_is_mark : Cal l.prog w K mg base "is_mark" 1 ["value"] [] (spMark K) := cal_of F_is_mark (PySem.W.mg_of X G a_is_mark) b_is_mark O_is_mark
  have O_is_heard : FnOk l.prog w K mg base CX0 2 f_is_heard _ ["value"] (spHeard K) := ok_is_heard F_is_heard T C_is_mark
  have b_is_heard : Binds K _ ["value"] [] := F_is_heard.binds fun _ _ _ _ _ _ us hl => match us, hl with | [_], _ => rfl
  have C_is_heard : Cal l.prog w K mg base "is_heard" 2 ["value"] [] (spHeard K) := cal_of F_is_heard (PySem.W.mg_of X G a_is_heard) b_is_heard O_is_heard
  have O_is_lot : FnOk l.prog w K mg base CX0 3 f_is_lot _ ["value"] (spLot K) := ok_is_lot F_is_lot T C_is_listed C_is_within C_ascends
  have b_is_lot : Binds K _ ["value"] [] := F_is_lot.binds fun _ _ _ _ _ _ us hl => match us, hl with | [_], _ => rfl
  have C_is_lot : Cal l.prog w K mg base "is_lot" 3 ["value"] [] (spLot K) := cal_of F_is_lot (PySem.W.mg_of X G a_is_lot) b_is_lot O_is_lot
  have O_is_inside : FnOk l.prog w K mg base CX0 1 f_is_inside _ ["lot", "other"] (spInside K) := ok_is_inside F_is_inside T
  have b_is_inside : Binds K _ ["lot", "other"] [] := F_is_inside.binds fun _ _ _ _ _ _ us hl => match us, hl with | [_, _], _ => rfl
  have C_is_inside : Cal l.prog w K mg base "is_inside" 1 ["lot", "other"] [] (spInside K) := cal_of F_is_inside (PySem.W.mg_of X G a_is_inside) b_is_inside O_is_inside
  have O_is_arrow : FnOk l.prog w K mg base CX0 3 f_is_arrow _ ["value"] (spArrow K) := ok_is_arrow F_is_arrow T C_is_listed C_is_within C_is_sound
  have b_is_arrow : Binds K _ ["value"] [] := F_is_arrow.binds fun _ _ _ _ _ _ us hl => match us, hl with | [_], _ => rfl
  have C_is_arrow : Cal l.prog w K mg base "is_arrow" 3 ["value"] [] (spArrow K) := cal_of F_is_arrow (PySem.W.mg_of X G a_is_arrow) b_is_arrow O_is_arrow
  have O_Speech___init__ : FnOk l.prog w K mg base CX0 4 f_Speech___init__ _ ["self", "arrows", "starts"] (spSpI K CS) := ok_Speech_init F_Speech___init__ T TS C_is_listed C_is_arrow C_is_lot
  have b_Speech___init__ : Binds K _ ["self", "arrows", "starts"] [] := F_Speech___init__.binds fun _ _ _ _ _ _ us hl => match us, hl with | [_, _, _], _ => rfl
  have M_Speech : Mkr l.prog w K mg base "Speech" CS 4 ["self", "arrows", "starts"] (spSpI K CS) := ⟨f_Speech___init__, _, g_Speech, ⟨mk_Speech, a_Speech___init__, i_Speech___init__, kc_Speech⟩, b_Speech___init__, O_Speech___init__⟩
  have O_are_marks : FnOk l.prog w K mg base CX0 3 f_are_marks _ ["value"] (spMarks K) := ok_are_marks F_are_marks T C_is_listed C_is_heard
  have b_are_marks : Binds K _ ["value"] [] := F_are_marks.binds fun _ _ _ _ _ _ us hl => match us, hl with | [_], _ => rfl
  have C_are_marks : Cal l.prog w K mg base "are_marks" 3 ["value"] [] (spMarks K) := cal_of F_are_marks (PySem.W.mg_of X G a_are_marks) b_are_marks O_are_marks
  have O_Wall___init__ : FnOk l.prog w K mg base CX0 4 f_Wall___init__ _ ["self", "marks"] (spWaI K CW) := ok_Wall_init F_Wall___init__ T TW_ C_is_sound C_are_marks
  have b_Wall___init__ : Binds K _ ["self", "marks"] [] := F_Wall___init__.binds fun _ _ _ _ _ _ us hl => match us, hl with | [_, _], _ => rfl
  have M_Wall : Mkr l.prog w K mg base "Wall" CW 4 ["self", "marks"] (spWaI K CW) := ⟨f_Wall___init__, _, g_Wall, ⟨mk_Wall, a_Wall___init__, i_Wall___init__, kc_Wall⟩, b_Wall___init__, O_Wall___init__⟩
  have O_need_speech : FnOk l.prog w K mg base CX0 1 f_need_speech _ ["value", "part"] (spNeedSp K CS) := ok_need_speech F_need_speech T g_Speech IS
  have C_need_speech : Cal l.prog w K mg base "need_speech" 1 ["value", "part"] [.str "speech"] (spNeedSp K CS) := calD_of F_need_speech (PySem.W.mg_of X G a_need_speech) (F_need_speech.binds1 1 0 (by simp) rfl fun _ _ _ _ _ _ _ us its h1 h2 => match us, its, h1, h2 with | [_], [_], _, _ => ⟨_, rfl, rfl⟩) O_need_speech
  have O_need_wall : FnOk l.prog w K mg base CX0 2 f_need_wall _ ["value", "speech"] (spNeedWa K CS CW) := ok_need_wall F_need_wall T g_Wall IW TS TW_
  have b_need_wall : Binds K _ ["value", "speech"] [] := F_need_wall.binds fun _ _ _ _ _ _ us hl => match us, hl with | [_, _], _ => rfl
  have C_need_wall : Cal l.prog w K mg base "need_wall" 2 ["value", "speech"] [] (spNeedWa K CS CW) := cal_of F_need_wall (PySem.W.mg_of X G a_need_wall) b_need_wall O_need_wall
  have O_Hearing___init__ : FnOk l.prog w K mg base CX0 1 f_Hearing___init__ _ ["self", "speech", "wall"] (spHeI K CH CS CW) := ok_Hearing_init F_Hearing___init__ T TH TS TW_
  have b_Hearing___init__ : Binds K _ ["self", "speech", "wall"] [] := F_Hearing___init__.binds fun _ _ _ _ _ _ us hl => match us, hl with | [_, _, _], _ => rfl
  have M_Hearing : Mkr l.prog w K mg base "Hearing" CH 1 ["self", "speech", "wall"] (spHeI K CH CS CW) := ⟨f_Hearing___init__, _, g_Hearing, ⟨mk_Hearing, a_Hearing___init__, i_Hearing___init__, kc_Hearing⟩, b_Hearing___init__, O_Hearing___init__⟩
  have O_Hearing_closed : FnOk l.prog w K mg base CX0 1 f_Hearing_closed _ ["self", "places"] (spClosed K CH CS CW) := ok_closed F_Hearing_closed T TH
  have b_Hearing_closed : Binds K _ ["self", "places"] [] := F_Hearing_closed.binds fun _ _ _ _ _ _ us hl => match us, hl with | [_, _], _ => rfl
  have Me_closed : Met l.prog w K mg base CH "closed" 1 ["self", "places"] (spClosed K CH CS CW) := ⟨cl_Hearing, f_Hearing_closed, _, ⟨a_Hearing_closed, i_Hearing_closed, k_Hearing_closed⟩, b_Hearing_closed, O_Hearing_closed⟩
  have O_Hearing_begun : FnOk l.prog w K mg base CX0 2 f_Hearing_begun _ ["self"] (spBegun K CH CS CW) := ok_begun F_Hearing_begun TH TS Me_closed
  have b_Hearing_begun : Binds K _ ["self"] [] := F_Hearing_begun.binds fun _ _ _ _ _ _ us hl => match us, hl with | [_], _ => rfl
  have Me_begun : Met l.prog w K mg base CH "begun" 2 ["self"] (spBegun K CH CS CW) := ⟨cl_Hearing, f_Hearing_begun, _, ⟨a_Hearing_begun, i_Hearing_begun, k_Hearing_begun⟩, b_Hearing_begun, O_Hearing_begun⟩
  have O_Hearing_behind : FnOk l.prog w K mg base CX0 2 f_Hearing_behind _ ["self", "places", "mark"] (spBehind K CH CS CW) := ok_behind F_Hearing_behind T TH Me_closed
  have b_Hearing_behind : Binds K _ ["self", "places", "mark"] [] := F_Hearing_behind.binds fun _ _ _ _ _ _ us hl => match us, hl with | [_, _, _], _ => rfl
  have Me_behind : Met l.prog w K mg base CH "behind" 2 ["self", "places", "mark"] (spBehind K CH CS CW) := ⟨cl_Hearing, f_Hearing_behind, _, ⟨a_Hearing_behind, i_Hearing_behind, k_Hearing_behind⟩, b_Hearing_behind, O_Hearing_behind⟩
  have O_need_hearing : FnOk l.prog w K mg base CX0 3 f_need_hearing _ ["speech", "wall"] (spNeedHe K CH CS CW) := ok_need_hearing F_need_hearing C_need_speech C_need_wall M_Hearing
  have b_need_hearing : Binds K _ ["speech", "wall"] [] := F_need_hearing.binds fun _ _ _ _ _ _ us hl => match us, hl with | [_, _], _ => rfl
  have C_need_hearing : Cal l.prog w K mg base "need_hearing" 3 ["speech", "wall"] [] (spNeedHe K CH CS CW) := cal_of F_need_hearing (PySem.W.mg_of X G a_need_hearing) b_need_hearing O_need_hearing
  have O_need_places : FnOk l.prog w K mg base CX0 4 f_need_places _ ["hearing", "value"] (spNeedPl K CH CS CW) := ok_need_places F_need_places T TH TS C_is_lot C_is_inside
  have b_need_places : Binds K _ ["hearing", "value"] [] := F_need_places.binds fun _ _ _ _ _ _ us hl => match us, hl with | [_, _], _ => rfl
  have C_need_places : Cal l.prog w K mg base "need_places" 4 ["hearing", "value"] [] (spNeedPl K CH CS CW) := cal_of F_need_places (PySem.W.mg_of X G a_need_places) b_need_places O_need_places
  have O_need_row : FnOk l.prog w K mg base CX0 2 f_need_row _ ["hearing", "value"] (spNeedRow K CH CS CW) := ok_need_row F_need_row T TH TW_ C_is_listed
  have b_need_row : Binds K _ ["hearing", "value"] [] := F_need_row.binds fun _ _ _ _ _ _ us hl => match us, hl with | [_, _], _ => rfl
  have C_need_row : Cal l.prog w K mg base "need_row" 2 ["hearing", "value"] [] (spNeedRow K CH CS CW) := cal_of F_need_row (PySem.W.mg_of X G a_need_row) b_need_row O_need_row
  have O_silent : FnOk l.prog w K mg base CX0 5 f_silent _ ["speech", "wall", "places"] (spSilent K CS CW) := ok_silent F_silent C_need_hearing C_need_places Me_closed
  have b_silent : Binds K _ ["speech", "wall", "places"] [] := F_silent.binds fun _ _ _ _ _ _ us hl => match us, hl with | [_, _, _], _ => rfl
  have C_silent : Cal l.prog w K mg base "silent" 5 ["speech", "wall", "places"] [] (spSilent K CS CW) := cal_of F_silent (PySem.W.mg_of X G a_silent) b_silent O_silent
  have CB_silent : CalB l.prog w K mg base "silent" 5 ["speech", "wall", "places"] ["places", "wall", "speech"] (spSilent K CS CW) := calB_of F_silent (PySem.W.mg_of X G a_silent) (Fun.back F_silent (fun _ _ _ _ _ _ ws hl => match ws, hl with | [_, _, _], _ => rfl) (by simp)) O_silent
  have O_after : FnOk l.prog w K mg base CX0 5 f_after _ ["speech", "wall", "places", "mark"] (spAfter K CS CW) := ok_after F_after T TW_ C_need_hearing C_need_places Me_behind
  have b_after : Binds K _ ["speech", "wall", "places", "mark"] [] := F_after.binds fun _ _ _ _ _ _ us hl => match us, hl with | [_, _, _, _], _ => rfl
  have C_after : Cal l.prog w K mg base "after" 5 ["speech", "wall", "places", "mark"] [] (spAfter K CS CW) := cal_of F_after (PySem.W.mg_of X G a_after) b_after O_after
  have CB_after : CalB l.prog w K mg base "after" 5 ["speech", "wall", "places", "mark"] ["mark", "places", "wall", "speech"] (spAfter K CS CW) := calB_of F_after (PySem.W.mg_of X G a_after) (Fun.back F_after (fun _ _ _ _ _ _ ws hl => match ws, hl with | [_, _, _, _], _ => rfl) (by simp)) O_after
  have O_known : FnOk l.prog w K mg base CX0 4 f_known _ ["speech", "wall", "row"] (spKnown K CS CW) := ok_known F_known C_need_hearing C_need_row Me_begun Me_behind
  have C_known : Cal l.prog w K mg base "known" 4 ["speech", "wall", "row"] [] (spKnown K CS CW) := calD_of F_known (PySem.W.mg_of X G a_known) (F_known.binds1 3 1 (by simp) rfl fun _ _ _ _ _ _ _ us its h1 h2 => match us, its, h1, h2 with | [_, _, _], [_], _, _ => ⟨_, rfl, rfl⟩) O_known
  have O__law_pen : FnOk l.prog w K mg base CX0 1 f__law_pen _ ["script"] (spPen K) := ok_pen F__law_pen T
  have b__law_pen : Binds K _ ["script"] [] := F__law_pen.binds fun _ _ _ _ _ _ us hl => match us, hl with | [_], _ => rfl
  have C__law_pen : Cal l.prog w K mg base "_law_pen" 1 ["script"] [] (spPen K) := cal_of F__law_pen (PySem.W.mg_of X G a__law_pen) b__law_pen O__law_pen
  have O__law_draw : FnOk l.prog w K mg base CX0 1 f__law_draw _ ["pen", "many"] (spDraw K) := ok_draw F__law_draw T
  have b__law_draw : Binds K _ ["pen", "many"] [] := F__law_draw.binds fun _ _ _ _ _ _ us hl => match us, hl with | [_, _], _ => rfl
  have C__law_draw : Cal l.prog w K mg base "_law_draw" 1 ["pen", "many"] [] (spDraw K) := cal_of F__law_draw (PySem.W.mg_of X G a__law_draw) b__law_draw O__law_draw
  have O__law_pick : FnOk l.prog w K mg base CX0 2 f__law_pick _ ["pen", "some"] (spPick K) := ok_pick F__law_pick T C__law_draw
  have b__law_pick : Binds K _ ["pen", "some"] [] := F__law_pick.binds fun _ _ _ _ _ _ us hl => match us, hl with | [_, _], _ => rfl
  have C__law_pick : Cal l.prog w K mg base "_law_pick" 2 ["pen", "some"] [] (spPick K) := cal_of F__law_pick (PySem.W.mg_of X G a__law_pick) b__law_pick O__law_pick
  have O__law_shuffled : FnOk l.prog w K mg base CX0 2 f__law_shuffled _ ["pen", "some"] (spShuf K) := ok_shuffled F__law_shuffled T C__law_draw
  have b__law_shuffled : Binds K _ ["pen", "some"] [] := F__law_shuffled.binds fun _ _ _ _ _ _ us hl => match us, hl with | [_, _], _ => rfl
  have C__law_shuffled : Cal l.prog w K mg base "_law_shuffled" 2 ["pen", "some"] [] (spShuf K) := cal_of F__law_shuffled (PySem.W.mg_of X G a__law_shuffled) b__law_shuffled O__law_shuffled
  have O__law_some : FnOk l.prog w K mg base CX0 2 f__law_some _ ["pen", "some"] (spSome K) := ok_some F__law_some C__law_draw
  have b__law_some : Binds K _ ["pen", "some"] [] := F__law_some.binds fun _ _ _ _ _ _ us hl => match us, hl with | [_, _], _ => rfl
  have C__law_some : Cal l.prog w K mg base "_law_some" 2 ["pen", "some"] [] (spSome K) := cal_of F__law_some (PySem.W.mg_of X G a__law_some) b__law_some O__law_some
  have O__law_arrows : FnOk l.prog w K mg base CX0 3 f__law_arrows _ ["pen", "many", "sounds", "number"] (spArrows K) := ok_arrows F__law_arrows T C__law_draw C__law_pick
  have b__law_arrows : Binds K _ ["pen", "many", "sounds", "number"] [] := F__law_arrows.binds fun _ _ _ _ _ _ us hl => match us, hl with | [_, _, _, _], _ => rfl
  have C__law_arrows : Cal l.prog w K mg base "_law_arrows" 3 ["pen", "many", "sounds", "number"] [] (spArrows K) := cal_of F__law_arrows (PySem.W.mg_of X G a__law_arrows) b__law_arrows O__law_arrows
  have O__law_marks : FnOk l.prog w K mg base CX0 3 f__law_marks _ ["pen", "sounds", "is_wide"] (spLMarks K) := ok_lmarks F__law_marks T C__law_draw C__law_pick C__law_shuffled
  have C__law_marks : Cal l.prog w K mg base "_law_marks" 3 ["pen", "sounds", "is_wide"] [.bl false] (spLMarks K) := calD_of F__law_marks (PySem.W.mg_of X G a__law_marks) (F__law_marks.binds1 2 0 (by simp) rfl fun _ _ _ _ _ _ _ us its h1 h2 => match us, its, h1, h2 with | [_, _], [_], _, _ => ⟨_, rfl, rfl⟩) O__law_marks
  have O__law_plain : FnOk l.prog w K mg base CX0 4 f__law_plain _ ["pen", "many", "number"] (spLPlain K) := ok_lplain F__law_plain T C__law_draw C__law_pick C__law_arrows C__law_marks
  have b__law_plain : Binds K _ ["pen", "many", "number"] [] := F__law_plain.binds fun _ _ _ _ _ _ us hl => match us, hl with | [_, _, _], _ => rfl
  have C__law_plain : Cal l.prog w K mg base "_law_plain" 4 ["pen", "many", "number"] [] (spLPlain K) := cal_of F__law_plain (PySem.W.mg_of X G a__law_plain) b__law_plain O__law_plain
  have O__law_places : FnOk l.prog w K mg base CX0 1 f__law_places _ ["arrows", "starts"] (spPlaces K) := ok_places F__law_places T
  have b__law_places : Binds K _ ["arrows", "starts"] [] := F__law_places.binds fun _ _ _ _ _ _ us hl => match us, hl with | [_, _], _ => rfl
  have C__law_places : Cal l.prog w K mg base "_law_places" 1 ["arrows", "starts"] [] (spPlaces K) := cal_of F__law_places (PySem.W.mg_of X G a__law_places) b__law_places O__law_places
  have O__law_closed : FnOk l.prog w K mg base CX0 1 f__law_closed _ ["arrows", "marks", "places"] (spLClosed K) := ok_lclosed F__law_closed T
  have b__law_closed : Binds K _ ["arrows", "marks", "places"] [] := F__law_closed.binds fun _ _ _ _ _ _ us hl => match us, hl with | [_, _, _], _ => rfl
  have C__law_closed : Cal l.prog w K mg base "_law_closed" 1 ["arrows", "marks", "places"] [] (spLClosed K) := cal_of F__law_closed (PySem.W.mg_of X G a__law_closed) b__law_closed O__law_closed
  have O__law_behind : FnOk l.prog w K mg base CX0 2 f__law_behind _ ["arrows", "marks", "places", "mark"] (spLBehind K) := ok_lbehind F__law_behind C__law_closed
  have b__law_behind : Binds K _ ["arrows", "marks", "places", "mark"] [] := F__law_behind.binds fun _ _ _ _ _ _ us hl => match us, hl with | [_, _, _, _], _ => rfl
  have C__law_behind : Cal l.prog w K mg base "_law_behind" 2 ["arrows", "marks", "places", "mark"] [] (spLBehind K) := cal_of F__law_behind (PySem.W.mg_of X G a__law_behind) b__law_behind O__law_behind
  have O__law_all_marks : FnOk l.prog w K mg base CX0 1 f__law_all_marks _ ["arrows", "marks"] (spAllMarks K) := ok_all_marks F__law_all_marks T
  have b__law_all_marks : Binds K _ ["arrows", "marks"] [] := F__law_all_marks.binds fun _ _ _ _ _ _ us hl => match us, hl with | [_, _], _ => rfl
  have C__law_all_marks : Cal l.prog w K mg base "_law_all_marks" 1 ["arrows", "marks"] [] (spAllMarks K) := cal_of F__law_all_marks (PySem.W.mg_of X G a__law_all_marks) b__law_all_marks O__law_all_marks
  have O__law_one_right : FnOk l.prog w K mg base CX0 9 f__law_one_right _ ["pen"] (spOne K) := ok_one F__law_one_right T C__law_draw C__law_pick C__law_some C__law_shuffled C__law_plain C__law_places C__law_all_marks C__law_closed C__law_behind M_Speech M_Wall C_silent CB_silent C_after CB_after C_known
  have b__law_one_right : Binds K _ ["pen"] [] := F__law_one_right.binds fun _ _ _ _ _ _ us hl => match us, hl with | [_], _ => rfl
  have C__law_one_right : Cal l.prog w K mg base "_law_one_right" 9 ["pen"] [] (spOne K) := cal_of F__law_one_right (PySem.W.mg_of X G a__law_one_right) b__law_one_right O__law_one_right
  exact ok_law F_law T C__law_pen C__law_one_right
theorem walk {l : PySem.W.OpenLaw} {q : Program} {loose : List Str} {XP : (Str → Option Value) → Heap → Prop} {YP : World → Heap → Prop} {d : DefRec} {K : Params → PySem.W.Frag} (hn : l.most = some 63) (hdf : d.params.defaults = [])
    (hY : ∀ (w : World) (h : Heap), YP w h → (K w.params).In h)
    (F : ∀ (w : World) (mg : Str → Option Value) (fa : Addr) (h : Heap), (K w.params).In h → h.Ns mainGlobals mg → mg d.name = some (.ref fa) →
      ∃ fd : FuncData, (∀ (s : Shared) (u : Value), BindsTo s fd ⟨[u], []⟩ [("script", u)]) ∧ ∀ base : Heap, (K w.params).In base → base.Ns mainGlobals mg → FnOk l.prog w (K w.params) mg base CX0 10 fa fd ["script"] (spLaw (K w.params))) :
    PySem.W.WalkO q loose XP YP l.row.toRowW d [] (fun f vs => PySem.call f vs) :=
  L2.walk_of (n := 63) (k := 10) (x := "script") (CX := fun _ => CX0) (sp := fun w => spLaw (K w.params)) hn (by decide) hdf ⟨rfl, by decide, by decide⟩ hY F (fun _ _ a ns hl _ hS => ⟨a, ns, rfl, hS, hl, fun _ => rfl⟩) fun _ _ _ _ _ z => z
end TW
set_option Elab.async false
set_option maxRecDepth 100000
open PySem PySem.W PyProof.Rows
set_option maxRecDepth 100000 in
set_option maxHeartbeats 0 in
theorem PySem.Challenge.cw_throughwalls_k06_whole_knowing_goes_mark_holds : PySem.Challenge.rw_throughwalls_k06_whole_knowing_goes_mark.Holds := by
  w_on; o_law; k_head; (case hw => w_witness2)
  k_fill
  refine TW.walk (l := PySem.Challenge.rw_throughwalls_k06_whole_knowing_goes_mark) rfl rfl (fun w h Y => PySem.W.kIn_of Y) ?F
  case F =>
    intro w mg fa h KX G hmg
    refine' TW.all_mk KX G hmg ?a_Speech ?pg_Speech ?hd_Speech ?po_Speech ?sa_Speech ?mk_Speech ?kc_Speech ?n_Speech_arrows ?n_Speech_starts ?n_Speech_places ?n_Speech_sounds ?n_Speech_own_from ?ha_Speech ?hm_Speech ?a_Wall ?pg_Wall ?hd_Wall ?po_Wall ?sa_Wall ?mk_Wall ?kc_Wall ?n_Wall_own_marks ?n_Wall_sounds ?n_Wall_all_marks ?ha_Wall ?hm_Wall ?a_Hearing ?pg_Hearing ?hd_Hearing ?po_Hearing ?sa_Hearing ?mk_Hearing ?kc_Hearing ?n_Hearing_speech ?n_Hearing_wall ?n_Hearing_unheard ?n_Hearing_led ?hn_class ?ht_class ?a_is_integer ?l_is_integer ?c_is_integer ?k_is_integer ?a_is_within ?l_is_within ?c_is_within ?k_is_within ?a_is_listed ?l_is_listed ?c_is_listed ?k_is_listed ?a_is_sound ?l_is_sound ?c_is_sound ?k_is_sound ?a_ascends ?l_ascends ?c_ascends ?k_ascends ?a_is_mark ?l_is_mark ?c_is_mark ?k_is_mark ?a_is_heard ?l_is_heard ?c_is_heard ?k_is_heard ?a_is_lot ?l_is_lot ?c_is_lot ?k_is_lot ?a_is_inside ?l_is_inside ?c_is_inside ?k_is_inside ?a_is_arrow ?l_is_arrow ?c_is_arrow ?k_is_arrow ?a_Speech___init__ ?i_Speech___init__ ?l_Speech___init__ ?c_Speech___init__ ?k_Speech___init__ ?a_are_marks ?l_are_marks ?c_are_marks ?k_are_marks ?a_Wall___init__ ?i_Wall___init__ ?l_Wall___init__ ?c_Wall___init__ ?k_Wall___init__ ?a_need_speech ?l_need_speech ?c_need_speech ?k_need_speech ?lT_need_speech ?a_need_wall ?l_need_wall ?c_need_wall ?k_need_wall ?a_Hearing___init__ ?i_Hearing___init__ ?l_Hearing___init__ ?c_Hearing___init__ ?k_Hearing___init__ ?a_Hearing_closed ?i_Hearing_closed ?l_Hearing_closed ?c_Hearing_closed ?k_Hearing_closed ?a_Hearing_begun ?i_Hearing_begun ?l_Hearing_begun ?c_Hearing_begun ?k_Hearing_begun ?a_Hearing_behind ?i_Hearing_behind ?l_Hearing_behind ?c_Hearing_behind ?k_Hearing_behind ?a_need_hearing ?l_need_hearing ?c_need_hearing ?k_need_hearing ?a_need_places ?l_need_places ?c_need_places ?k_need_places ?a_need_row ?l_need_row ?c_need_row ?k_need_row ?a_silent ?l_silent ?c_silent ?k_silent ?a_after ?l_after ?c_after ?k_after ?a_known ?l_known ?c_known ?k_known ?lT_known ?a__law_pen ?l__law_pen ?c__law_pen ?k__law_pen ?a__law_draw ?l__law_draw ?c__law_draw ?k__law_draw ?a__law_pick ?l__law_pick ?c__law_pick ?k__law_pick ?a__law_shuffled ?l__law_shuffled ?c__law_shuffled ?k__law_shuffled ?a__law_some ?l__law_some ?c__law_some ?k__law_some ?a__law_arrows ?l__law_arrows ?c__law_arrows ?k__law_arrows ?a__law_marks ?l__law_marks ?c__law_marks ?k__law_marks ?lT__law_marks ?a__law_plain ?l__law_plain ?c__law_plain ?k__law_plain ?a__law_places ?l__law_places ?c__law_places ?k__law_places ?a__law_closed ?l__law_closed ?c__law_closed ?k__law_closed ?a__law_behind ?l__law_behind ?c__law_behind ?k__law_behind ?a__law_all_marks ?l__law_all_marks ?c__law_all_marks ?k__law_all_marks ?a__law_one_right ?l__law_one_right ?c__law_one_right ?k__law_one_right ?a_law ?l_law ?c_law ?k_law ?z_isinstance ?z_len ?z_all ?z_any ?z_sorted ?z_zip ?z_enumerate ?z_range ?z_abs ?z_set ?z_tuple ?z_list ?z_dict ?z_int ?z_bool ?z_str ?z_SIGNS ?z_MARK_SIGNS ?z_MOST_SIGNS ?z_MOST_PLACE ?z_MOST_ARROWS ?z_ARROW ?z_MOST_MARKS
    (case a_Speech => k_is); (case pg_Speech => k_is); (case hd_Speech => k_is); (case po_Speech => k_is); (case sa_Speech => k_is); (case mk_Speech => k_is)
    (case kc_Speech => k_is); (case n_Speech_arrows => k_is); (case n_Speech_starts => k_is); (case n_Speech_places => k_is); (case n_Speech_sounds => k_is); (case n_Speech_own_from => k_is)
    (case ha_Speech => k_is); (case hm_Speech => k_is); (case a_Wall => k_is); (case pg_Wall => k_is); (case hd_Wall => k_is); (case po_Wall => k_is)
    (case sa_Wall => k_is); (case mk_Wall => k_is); (case kc_Wall => k_is); (case n_Wall_own_marks => k_is); (case n_Wall_sounds => k_is); (case n_Wall_all_marks => k_is)
    (case ha_Wall => k_is); (case hm_Wall => k_is); (case a_Hearing => k_is); (case pg_Hearing => k_is); (case hd_Hearing => k_is); (case po_Hearing => k_is)
    (case sa_Hearing => k_is); (case mk_Hearing => k_is); (case kc_Hearing => k_is); (case n_Hearing_speech => k_is); (case n_Hearing_wall => k_is); (case n_Hearing_unheard => k_is)
    (case n_Hearing_led => k_is); (case hn_class => k_is); (case ht_class => k_is); (case a_is_integer => k_is); (case l_is_integer => k_is); (case c_is_integer => k_is)
    (case k_is_integer => k_is); (case a_is_within => k_is); (case l_is_within => k_is); (case c_is_within => k_is); (case k_is_within => k_is); (case a_is_listed => k_is)
    (case l_is_listed => k_is); (case c_is_listed => k_is); (case k_is_listed => k_is); (case a_is_sound => k_is); (case l_is_sound => k_is); (case c_is_sound => k_is)
    (case k_is_sound => k_is); (case a_ascends => k_is); (case l_ascends => k_is); (case c_ascends => k_is); (case k_ascends => k_is); (case a_is_mark => k_is)
    (case l_is_mark => k_is); (case c_is_mark => k_is); (case k_is_mark => k_is); (case a_is_heard => k_is); (case l_is_heard => k_is); (case c_is_heard => k_is)
    (case k_is_heard => k_is); (case a_is_lot => k_is); (case l_is_lot => k_is); (case c_is_lot => k_is); (case k_is_lot => k_is); (case a_is_inside => k_is)
    (case l_is_inside => k_is); (case c_is_inside => k_is); (case k_is_inside => k_is); (case a_is_arrow => k_is); (case l_is_arrow => k_is); (case c_is_arrow => k_is)
    (case k_is_arrow => k_is); (case a_Speech___init__ => k_is); (case i_Speech___init__ => k_is); (case l_Speech___init__ => k_is); (case c_Speech___init__ => k_is); (case k_Speech___init__ => k_is)
    (case a_are_marks => k_is); (case l_are_marks => k_is); (case c_are_marks => k_is); (case k_are_marks => k_is); (case a_Wall___init__ => k_is); (case i_Wall___init__ => k_is)
    (case l_Wall___init__ => k_is); (case c_Wall___init__ => k_is); (case k_Wall___init__ => k_is); (case a_need_speech => k_is); (case l_need_speech => k_is); (case c_need_speech => k_is)
    (case k_need_speech => k_is); (case lT_need_speech => k_is); (case a_need_wall => k_is); (case l_need_wall => k_is); (case c_need_wall => k_is); (case k_need_wall => k_is)
    (case a_Hearing___init__ => k_is); (case i_Hearing___init__ => k_is); (case l_Hearing___init__ => k_is); (case c_Hearing___init__ => k_is); (case k_Hearing___init__ => k_is); (case a_Hearing_closed => k_is)
    (case i_Hearing_closed => k_is); (case l_Hearing_closed => k_is); (case c_Hearing_closed => k_is); (case k_Hearing_closed => k_is); (case a_Hearing_begun => k_is); (case i_Hearing_begun => k_is)
    (case l_Hearing_begun => k_is); (case c_Hearing_begun => k_is); (case k_Hearing_begun => k_is); (case a_Hearing_behind => k_is); (case i_Hearing_behind => k_is); (case l_Hearing_behind => k_is)
    (case c_Hearing_behind => k_is); (case k_Hearing_behind => k_is); (case a_need_hearing => k_is); (case l_need_hearing => k_is); (case c_need_hearing => k_is); (case k_need_hearing => k_is)
    (case a_need_places => k_is); (case l_need_places => k_is); (case c_need_places => k_is); (case k_need_places => k_is); (case a_need_row => k_is); (case l_need_row => k_is)
    (case c_need_row => k_is); (case k_need_row => k_is); (case a_silent => k_is); (case l_silent => k_is); (case c_silent => k_is); (case k_silent => k_is)
    (case a_after => k_is); (case l_after => k_is); (case c_after => k_is); (case k_after => k_is); (case a_known => k_is); (case l_known => k_is)
    (case c_known => k_is); (case k_known => k_is); (case lT_known => k_is); (case a__law_pen => k_is); (case l__law_pen => k_is); (case c__law_pen => k_is)
    (case k__law_pen => k_is); (case a__law_draw => k_is); (case l__law_draw => k_is); (case c__law_draw => k_is); (case k__law_draw => k_is); (case a__law_pick => k_is)
    (case l__law_pick => k_is); (case c__law_pick => k_is); (case k__law_pick => k_is); (case a__law_shuffled => k_is); (case l__law_shuffled => k_is); (case c__law_shuffled => k_is)
    (case k__law_shuffled => k_is); (case a__law_some => k_is); (case l__law_some => k_is); (case c__law_some => k_is); (case k__law_some => k_is); (case a__law_arrows => k_is)
    (case l__law_arrows => k_is); (case c__law_arrows => k_is); (case k__law_arrows => k_is); (case a__law_marks => k_is); (case l__law_marks => k_is); (case c__law_marks => k_is)
    (case k__law_marks => k_is); (case lT__law_marks => k_is); (case a__law_plain => k_is); (case l__law_plain => k_is); (case c__law_plain => k_is); (case k__law_plain => k_is)
    (case a__law_places => k_is); (case l__law_places => k_is); (case c__law_places => k_is); (case k__law_places => k_is); (case a__law_closed => k_is); (case l__law_closed => k_is)
    (case c__law_closed => k_is); (case k__law_closed => k_is); (case a__law_behind => k_is); (case l__law_behind => k_is); (case c__law_behind => k_is); (case k__law_behind => k_is)
    (case a__law_all_marks => k_is); (case l__law_all_marks => k_is); (case c__law_all_marks => k_is); (case k__law_all_marks => k_is); (case a__law_one_right => k_is); (case l__law_one_right => k_is)
    (case c__law_one_right => k_is); (case k__law_one_right => k_is); (case a_law => k_is); (case l_law => k_is); (case c_law => k_is); (case k_law => k_is)
    (case z_isinstance => k_is); (case z_len => k_is); (case z_all => k_is); (case z_any => k_is); (case z_sorted => k_is); (case z_zip => k_is)
    (case z_enumerate => k_is); (case z_range => k_is); (case z_abs => k_is); (case z_set => k_is); (case z_tuple => k_is); (case z_list => k_is)
    (case z_dict => k_is); (case z_int => k_is); (case z_bool => k_is); (case z_str => k_is); (case z_SIGNS => k_is); (case z_MARK_SIGNS => k_is)
    (case z_MOST_SIGNS => k_is); (case z_MOST_PLACE => k_is); (case z_MOST_ARROWS => k_is); (case z_ARROW => k_is); (case z_MOST_MARKS => k_is)
#print axioms PySem.Challenge.cw_throughwalls_k06_whole_knowing_goes_mark_holds
