import PyProof.Rows.All
import HandS.ForMost
import HandS.Flow
import HandS.Style
import HandS.Wide
import HandS.Deep
import HandS.Walk
import HandS.IsInst
import HandS.SortInts
import HandS.SetFor
import HandS.Strs
import HandS.TupLe
import HandS.TupAny
import HandS.TupMul
import KE.KTupSum
import HandS.Conv
import HandS.Defaults
import HandS.Head0
import HandS.Head1
import HandS.Head2
import HandS.HeadEnd
import HandS.HeadHook1
import HandS.HeadHook2
import PySem.Challenge.RW_teasblended_k30_whole_pourings_of_a_pot
set_option Elab.async false
set_option linter.all false
set_option maxRecDepth 100000
set_option maxHeartbeats 4000000
/-! TL0: set(xs) of a list or a tuple of ints, sorted(set(xs)), any number below the scan's bound. -/
namespace TL
open PySem PySem.Spec PyProof.Rows L2
section
variable {P : Program} {w : World} {A : Around} {E : Value → Shared → Prop} {s : Shared}
/-- a new set, not yet filled -/
abbrev set0 (w : World) : Obj := { cls := .type "set", dict := none, data := .set #[] 0 (.fresh 0 0 (!w.params.followText "set-order")) }
/-- the loop of set(xs): from a fresh set at S, a walk over items, it ends with Res -/
def Fills (P : Program) (w : World) (items : Array Value) (S : Addr) (Res : Heap → Prop) : Prop :=
  ∀ (A1 : Around) (I : Addr) (fp wr : List Addr) (G : Array GenState → Array GenState → Prop) (Pv : Nat → Value → Prop) (St : Nat → Shared → Prop) (s1 : Shared) (R : Result → Shared → Prop),
    A1.handled = none → WalksS P w A1.in1 I fp wr G items.size Pv St → S ∉ fp → (∀ i v, Pv i v → items[i]? = some v) → St 0 s1 → s1.heap.get? S = some (set0 w) →
    (∀ s2, Moved (S :: wr) G s1 s2 → Res s2.heap → R (.ok (.ret .none)) s2) → codeAny (model P w) A1 (.builtin "set.update.loop" ⟨[.ref S, .ref I], []⟩) R s1
theorem fills_ints {items : Array Value} {ns : List Int} {S : Addr} (hit : IntsAre items.toList ns) (hb : ns.length + 1 < scanBound) :
    Fills P w items S fun h => ∃ c, c ≤ ns.length ∧ SetR w h S (fun j => decide (j ∈ ns)) c := by
  intro A1 I fp wr G Pv St s1 R _ W hSf hp st0 e0 hR
  have sz : items.size = ns.length := by
    have := IntsAre.length hit
    simpa using this
  refine set_update_ints W S hSf ns sz hb (fun i v pv => ?_) items.size 0 s1 (by omega) (Nat.zero_le _) st0 ⟨0, Nat.le_refl _, setR_new_at e0⟩ fun s2 c m hc r => hR s2 m ⟨c, by omega, r⟩
  have hv := hp i v pv
  have lt : i < ns.length := by
    rw [← sz]; exact (Array.getElem?_eq_some_iff.mp hv).1
  obtain ⟨t, e⟩ := IntsAre.int_at hit i v (by rw [Array.getElem?_toList]; exact hv)
  exact ⟨ns[i], t, List.getElem?_eq_getElem lt, by rw [e, List.getD_eq_getElem?_getD, List.getElem?_eq_getElem lt] <;> rfl⟩
end
section
variable {P : Program} {w : World} {A : Around} {E : Value → Shared → Prop} {s : Shared}
/-- a sequence object of class T -/
def SqAt (h : Heap) (T : String) (l : Addr) (items : Array Value) : Prop := ∃ o n, h.get? l = some o ∧ o.cls = .type T ∧ o.data = .seq items n
abbrev itO (C : String) (l : Addr) : Obj := { cls := .type C, data := .fields #[.ref l, .int 0 0] }
/-- what is asked of the class of the walked thing, C its iterator's -/
structure Seqy (P : Program) (w : World) (T C : String) : Prop where
  sub1 : isSubtype (.type T) (.type "set") = pure false
  sub2 : isSubtype (.type T) (.type "frozenset") = pure false
  nd : (Value.type T == Value.type "dict") = false
  iter : ∀ (A : Around) (E : Value → Shared → Prop) (s : Shared) (l : Addr) (items : Array Value) (Q : Value → Shared → Prop), SqAt s.heap T l items →
    Q (.ref s.heap.objs.size) { s with heap := s.heap.push (itO C l) } → wpAny (model P w) A (pyIter (.ref l)) Q E s
  walk : ∀ (A : Around) (I l : Addr) (items : Array Value), A.handled = none → l ≠ I → ∃ St : Nat → Heap → Prop, Walks P w A I [I, l] [I] items.size (fun i v => items[i]? = some v) St ∧
    ∀ h : Heap, h.get? I = some (itO C l) → SqAt h T l items → St 0 h
theorem seqy_list : Seqy P w "list" "list_iterator" where
  sub1 := F.sub_list_set
  sub2 := F.sub_list_frozenset
  nd := by decide
  iter := fun A E s l items Q ⟨o, n, h1, h2, h3⟩ q => wpAny_pyIter_list ⟨o, h1, h2, n, h3⟩ q
  walk := fun A I l items hh ne => ⟨_, Walks.list hh I l ne items, fun h e ⟨o, n, h1, h2, h3⟩ => ⟨⟨_, e, rfl, rfl⟩, ⟨o, h1, h2, n, h3⟩⟩⟩
theorem seqy_tuple : Seqy P w "tuple" "tuple_iterator" where
  sub1 := F.sub_tuple_set
  sub2 := F.sub_tuple_frozenset
  nd := by decide
  iter := fun A E s l items Q ⟨o, n, h1, h2, h3⟩ q => wpAny_pyIter_tuple ⟨o, h1, h2, n, h3⟩ q
  walk := fun A I l items hh ne => ⟨_, Walks.tuple hh I l ne items, fun h e ⟨o, n, h1, h2, h3⟩ => ⟨⟨_, e, rfl, rfl⟩, ⟨o, h1, h2, n, h3⟩⟩⟩
theorem SqAt.push {h : Heap} {T : String} {l : Addr} {items : Array Value} (x : SqAt h T l items) (u : Obj) : SqAt (h.push u) T l items := by
  obtain ⟨o, n, h1, h2, h3⟩ := x
  exact ⟨o, n, Heap.get?_push_of_some _ h1, h2, h3⟩
set_option maxHeartbeats 3200000 in
theorem call_set {T C : String} (K : Seqy P w T C) {l : Addr} {items : Array Value} {Res : Heap → Prop} {Q : Value → Shared → Prop} (hh : A.handled = none) (hl : SqAt s.heap T l items)
    (hf : Fills P w items s.heap.objs.size Res)
    (h : ∀ (h' : Heap) (tk : Nat), Res h' → (∀ b o, s.heap.get? b = some o → h'.get? b = some o) → Q (.ref s.heap.objs.size) { s with heap := h', toks := tk }) :
    wpAny (model P w) A (call (.type "set") [.ref l]) Q E s := by
  obtain ⟨_, _, hmro⟩ := F.called_set.mro
  have m1 := F.called_set.made
  have m2 := F.called_set.sub
  refine wpAny_call (codeAny_of_tree (show wpAny _ _ (callAny (.type "set") _) _ _ _ from ?_))
  refine wpAny_pure ⟨Code.quiet_builtin _ (by decide +kernel), codeAny_builtin F.entry_type_call ?_⟩
  rw [Around.under_plain (weight_type_call_type "set" [.ref l] []) rfl]
  have m3 := F.called_set.notType
  have m4 := F.called_set.canCreate
  have m5 := F.typeCall_set_1 (.ref l)
  repeat (any_goals (first | assumption | wp_step))
  have hle : ∀ b o, s.heap.get? b = some o → b < s.heap.objs.size := fun b o e => Heap.lt_size e
  have hlt : l < s.heap.objs.size := by obtain ⟨o, n, h1, _⟩ := hl; exact hle l o h1
  refine codeAny_mono (code_set_led1 (.ref l) (E := E) (Q₁ := fun v s1 => v = .ref s.heap.objs.size ∧ s1 = { s with heap := s.heap.push (set0 w) }) ⟨rfl, rfl⟩) fun r s1 hr => ?_
  rcases r with e | fl
  · exact hr
  cases fl with
  | ret v =>
    obtain ⟨rfl, rfl⟩ := hr
    have hS : (s.heap.push (set0 w)).get? s.heap.objs.size = some (set0 w) := Heap.get?_push_size _ rfl
    have hT : Shared.TypeIs { s with heap := s.heap.push (set0 w) } (.ref s.heap.objs.size) "set" := ⟨_, hS, rfl⟩
    have n1 := F.called_set.init.lookup
    have n2 := F.called_set.init.bind (.ref s.heap.objs.size)
    repeat (any_goals (first | assumption | wp_step))
    refine codeAny_mono (codeAny_call_builtin (R := wants (fun r s2 => r = .none ∧ ∃ h' tk, s2 = { s with heap := h', toks := tk } ∧ Res h' ∧ ∀ b o, s.heap.get? b = some o → h'.get? b = some o) E)
      F.called_set.init.plain F.entry_set_init (check_set_init_1 hT ?_)) fun r2 s2 hr2 => ?_
    · obtain ⟨ol, nl, hol, hcl, hdl⟩ := id hl
      obtain ⟨ocls, odict, odata, oslots⟩ := ol
      simp only at hcl hdl
      subst hcl hdl
      have hol1 : (s.heap.push (set0 w)).get? l = some { cls := .type T, dict := odict, data := .seq items nl, slots := oslots } := Heap.get?_push_of_some _ hol
      have k1 := K.sub1
      have k2 := K.sub2
      have k3 := K.nd
      have hl1 : SqAt (s.heap.push (set0 w)) T l items := hl.push _
      unfold Builtin.«set.__init__» noKeywords Builtin.Frozenset.updateFrom
      generalize hPI : pyIter = PI
      wp_walk
      subst hPI
      refine K.iter _ _ _ _ _ _ hl1 ?_
      refine wpAny_bind (wpAny_runValue ?_)
      have e1 : (s.heap.push (set0 w)).objs.size = s.heap.objs.size + 1 := Heap.size_push ..
      have hS2 : ((s.heap.push (set0 w)).push (itO C l)).get? s.heap.objs.size = some (set0 w) := Heap.get?_push_of_some _ hS
      obtain ⟨St, W, w0⟩ := K.walk A.in1.in1.in1 (s.heap.push (set0 w)).objs.size l items (by simp [hh]) (by rw [e1]; exact Nat.ne_of_lt (Nat.lt_succ_of_lt hlt))
      refine hf _ _ _ _ _ _ _ _ _ (by simp [hh]) W.toS ?_ (fun i v e => e) (w0 _ (Heap.get?_push_size _ rfl) (hl1.push _)) hS2 fun s3 mv rs => ?_
      · rw [e1]
        simp only [List.mem_cons, List.not_mem_nil, or_false, not_or]
        exact ⟨Nat.ne_of_lt (Nat.lt_succ_self _), Nat.ne_of_gt hlt⟩
      · obtain ⟨h3, g3, d3, t3, o3⟩ := s3
        have eg : g3 = s.gens := mv.gens
        have ed : d3 = s.drawn := mv.drawn
        have eo : o3 = s.os := mv.os
        subst eg ed eo
        show wpAny _ _ _ _ _ _
        refine wpAny_pure (show wpAny _ _ (ret Value.none) _ _ _ from ?_)
        refine wpAny_pure ⟨rfl, h3, t3, rfl, rs, fun b o e => ?_⟩
        have hb := hle b o e
        refine mv.heap b o ?_ (Heap.get?_push_of_some _ (Heap.get?_push_of_some _ e))
        rw [e1]
        simp only [List.mem_cons, List.not_mem_nil, or_false, not_or]
        exact ⟨Nat.ne_of_lt hb, Nat.ne_of_lt (Nat.lt_succ_of_lt hb)⟩
    · rcases r2 with e | fl2
      · exact hr2
      cases fl2 with
      | ret v2 =>
        obtain ⟨rfl, h2, tk, rfl, rs, kk⟩ := hr2
        repeat (any_goals (first | assumption | wp_step))
        exact h _ _ rs kk
      | _ => exact hr2.elim
  | _ => exact hr.elim
end
end TL

set_option Elab.async false
set_option linter.all false
set_option maxRecDepth 100000
set_option maxHeartbeats 4000000
/-! TL0b: sorted(set(xs)) and len(set(xs)) of ints as call readings. -/
namespace TL
open PySem PySem.Spec PyProof.Rows L2
section
variable {P : Program} {w : World} {A : Around} {E : Value → Shared → Prop} {s : Shared}
theorem sorted_setI {a : Addr} {S : Int → Bool} {n : Nat} {Q : Value → Shared → Prop} (R : SetR w s.heap a S n) (hh : A.handled = none)
    (h : ∀ s' p (out : List Value) (c : Nat) (ns : List Int), (∀ b o, s.heap.get? b = some o → s'.heap.get? b = some o) → s'.gens = s.gens → s'.os = s.os → s.heap.objs.size ≤ p →
      s'.heap.get? p = some (seqObj "list" out.toArray c) → IntsAre out ns → ns.Pairwise (· < ·) → (∀ k, k ∈ ns ↔ S k = true) → ns.length = n → Q (.ref p) s') :
    wpAny (model P w) A (call (.builtin "sorted") [.ref a]) Q E s := by
  obtain ⟨o, es, ep, t, ho, hex, hd, g, nd, hm, hb, hf, hn, hr, hl⟩ := R
  refine Calls.call_function_entry kind_sorted plain_sorted entry_sorted (args_sorted1 _) ?_
  unfold Builtin.«sorted»
  refine wpAny_bind (m := checkCount "sorted" 1 1 _) (wpAny_pure ?_)
  refine wpAny_bind (collect_set (A := A.in1) hh ⟨o, ho, hex.1, hd⟩ hf hb hr hl fun s1 vs kp sz g1 o1 pm => ?_)
  have lvs : vs.length = n := by rw [pm.length_eq, List.length_map, Array.length_toList]; exact hn
  have szl : vs.length ≤ sizeLine := by
    have : (4096 : Nat) ≤ sizeLine := by rw [sizeLine_eq]; decide
    unfold scanBound at hb
    omega
  have hI : IntsAre vs (vs.map Builtin.Re.reRawOf) := ints_of vs fun v hv => by
    obtain ⟨e, he, q⟩ := List.mem_map.mp (pm.mem_iff.mp hv)
    obtain ⟨k, tk, z, _⟩ := g e he
    exact ⟨k, tk, by rw [← q]; exact z⟩
  have pk : (vs.map Builtin.Re.reRawOf).Perm (es.toList.map keyOf) := by
    have z := pm.map Builtin.Re.reRawOf
    rwa [List.map_map] at z
  refine wpAny_bind (wpAny_newList ?_ szl)
  have hoL : (s1.heap.push (seqObj "list" vs.toArray 0)).get? s1.heap.objs.size = some (seqObj "list" vs.toArray 0) := Heap.get?_push_size _ rfl
  refine wpAny_bind (wpAny_holding (wpAny_call_entry slot_list_sort ⟨_, hoL, rfl⟩ entry_list_sort
    (SrtO.list_sort_ord SrtO.swo_int hoL szl (fun h2 => SrtO.ints_sortable hI h2) fun out h1 h2 => ⟨_, rfl, ?_⟩) (args_list_sort _)))
  obtain ⟨k1, k2, k3⟩ := SrtO.ints_out hI h1 h2
  have pn := k2.trans pk
  obtain ⟨c, hc⟩ := sortedHeap_at (vs := vs) (out := out.toArray) hoL
  refine wpAny_pure ⟨_, rfl, h _ s1.heap.objs.size out c _ (fun b u e => ?_) g1 o1 sz hc k1 (lt_of_le_nodup _ k3 (pn.nodup_iff.mpr nd)) (fun k => by rw [pn.mem_iff, ← hm k]) ?_⟩
  · have z := kp b u e
    have lt := Heap.lt_size z
    show (sortedHeap (s1.heap.push (seqObj "list" vs.toArray 0)) s1.heap.objs.size vs out.toArray).get? b = some u
    rw [sortedHeap_old (Nat.ne_of_lt lt) (by rw [size_push']; exact Nat.lt_succ_of_lt lt)]
    exact Heap.get?_push_of_some _ z
  · rw [pn.length_eq, List.length_map, Array.length_toList]; exact hn
end
section
variable {X : Cx}
/-- set(xs) of a list or a tuple of ints -/
def rSetI (K : PySem.W.Frag) (w : World) : List V → Hp → VK → Prop := fun xs H Q => ∃ (l : Addr) (ns : List Int), xs = [V.ref l] ∧ (SqL K H l (ns.map V.int) ∨ SqT K H l (ns.map V.int)) ∧ ns.length + 1 < scanBound ∧
  ∀ p c, H p = none → c ≤ ns.length → Q (.ref p) (upd H p (SetO w p (fun j => decide (j ∈ ns)) c))
theorem cr_setI (hc : X.calm = true) : CallR X (.type "set") (rSetI X.K X.w) := by
  intro pins s σ H xs us Q I r h
  obtain ⟨l, ns, rfl, hs, hb, q⟩ := h
  rw [Vals.ref1 r]
  have fin : ∀ (h' : Heap) (tk : Nat), (∃ c, c ≤ ns.length ∧ SetR X.w h' s.heap.objs.size (fun j => decide (j ∈ ns)) c) → (∀ b o, s.heap.get? b = some o → h'.get? b = some o) →
      EP X pins σ Q (.ref s.heap.objs.size) { s with heap := h', toks := tk } := fun h' tk ⟨c, hcl, R⟩ k =>
    ⟨.ref s.heap.objs.size, upd H s.heap.objs.size (SetO X.w s.heap.objs.size (fun j => decide (j ∈ ns)) c), I.laid (t' := tk) k (Nat.le_refl _) (setO_new R), rfl, q _ c (I.hok.fresh (Nat.le_refl _)) hcl⟩
  rcases hs with hs | hs
  · obtain ⟨its, rv, pl, hz⟩ := I.list hs
    obtain ⟨o, ho, hc', n, hd⟩ := pl.isList
    exact call_set seqy_list (I.ok.hd hc) ⟨o, n, ho, hc', hd⟩ (fills_ints (items := its.toArray) (by simpa using rv.ints) hb) fin
  · obtain ⟨its, rv, pl, hz⟩ := I.tuple hs
    obtain ⟨o, ho, hc', n, hd⟩ := (show s.heap.IsTuple l its.toArray from pl)
    exact call_set seqy_tuple (I.ok.hd hc) ⟨o, n, ho, hc', hd⟩ (fills_ints (items := its.toArray) (by simpa using rv.ints) hb) fin
/-- sorted(found), found a set of ints -/
def rSrtS (w : World) : List V → Hp → VK → Prop := fun xs H Q => ∃ (a : Addr) (S : Int → Bool) (n : Nat), xs = [V.ref a] ∧ H a = some (SetO w a S n) ∧ n ≤ sizeLine ∧
  ∀ (ns : List Int) (p : Addr), ns.Pairwise (· < ·) → (∀ k : Int, k ∈ ns ↔ S k = true) → ns.length = n → H p = none → Q (.ref p) (upd H p (.lst (ns.map V.int)))
theorem cr_srtS (hc : X.calm = true) : CallR X (.builtin "sorted") (rSrtS X.w) := by
  intro pins s σ H vs us Q I r h
  obtain ⟨a, S, n, rfl, ha, hz, q⟩ := h
  have R := setO_get I ha
  rw [Vals.ref1 r]
  refine sorted_setI R (I.ok.hd hc) fun s' p out c ns k g o hp hg hi hs hm hl => ?_
  have hn : H p = none := I.hok.fresh hp
  have J : Inv X pins σ (upd H p (.lst (ns.map V.int))) { s with heap := s'.heap, gens := s'.gens, drawn := s'.drawn, toks := s'.toks } :=
    I.call (ch := []) (Un.laid k hp hn) (I.hok.laid k hp ⟨by rw [List.length_map, hl]; exact hz, out, c, vals_of_ints hi, hg⟩) (by rw [g]; exact I.bare) fun _ z => nomatch z
  have e : s' = { s with heap := s'.heap, gens := s'.gens, drawn := s'.drawn, toks := s'.toks } := by
    obtain ⟨h1, g1, d1, t1, o1⟩ := s'
    simp only at o
    rw [o]
  rw [e]
  exact ⟨.ref p, _, J, rfl, q ns p hs hm hl hn⟩
def rLenS (w : World) : List V → Hp → VK → Prop := fun xs H Q => ∃ (a : Addr) (S : Int → Bool) (n : Nat), xs = [V.ref a] ∧ H a = some (SetO w a S n) ∧ ∀ ks : List Int, ks.Nodup → (∀ k : Int, k ∈ ks ↔ S k = true) → ks.length = n → Q (.int n) H
theorem cr_lenS : CallR X (.builtin "len") (rLenS X.w) := by
  intro pins s σ H vs us Q I r h
  obtain ⟨a, S, n, rfl, ha, q⟩ := h
  obtain ⟨o, es, ep, t, ho, hex, hd, g, nd, hm, hb, hf, hn, _⟩ := setO_get I ha
  rw [Vals.ref1 r]
  have : (4096 : Int) < 2 ^ 63 := by decide
  unfold scanBound at hb
  exact call_len_set ho hex hd hf (by omega) ⟨.int n, H, I.tok _, ⟨_, by rw [hn]⟩, q (es.toList.map keyOf) nd (fun k => (hm k).symm) (by rw [List.length_map, Array.length_toList]; exact hn)⟩
end
/-- the number of different ones, if a rising list has just these -/
theorem len_of_members : ∀ {ms ns : List Int}, ms.Pairwise (· < ·) → ns.Pairwise (· < ·) → (∀ k, k ∈ ms ↔ k ∈ ns) → ms = ns
  | [], [], _, _, _ => rfl
  | x :: r, [], _, _, h => absurd ((h x).1 List.mem_cons_self) List.not_mem_nil
  | [], y :: t, _, _, h => absurd ((h y).2 List.mem_cons_self) List.not_mem_nil
  | x :: r, y :: t, hx, hy, h => by
    obtain ⟨a1, a2⟩ := List.pairwise_cons.mp hx
    obtain ⟨b1, b2⟩ := List.pairwise_cons.mp hy
    have e : x = y := by
      rcases List.mem_cons.mp ((h x).1 List.mem_cons_self) with z | z
      · exact z
      · rcases List.mem_cons.mp ((h y).2 List.mem_cons_self) with z2 | z2
        · exact z2.symm
        · have := b1 x z; have := a1 y z2; omega
    subst e
    rw [len_of_members a2 b2 fun k => ?_]
    constructor
    · intro m
      rcases List.mem_cons.mp ((h k).1 (List.mem_cons_of_mem _ m)) with z | z
      · have := a1 k m; omega
      · exact z
    · intro m
      rcases List.mem_cons.mp ((h k).2 (List.mem_cons_of_mem _ m)) with z | z
      · have := b1 k m; omega
      · exact z
end TL

set_option Elab.async false
set_option linter.all false
set_option maxRecDepth 100000
set_option maxHeartbeats 4000000
/-! TL0c: t[::-1] of a tuple. -/
namespace TL
open PySem PySem.Spec PyProof.Rows L2 HT
section
variable {prog : Program} {w : World} {A : Around} {E : Value → Shared → Prop} {s : Shared}
theorem rev_adjust (n : Nat) : Builtin.Slice.sliceAdjust none none (-1) (n : Int) = ((n : Int) - 1, -1) := by
  unfold Builtin.Slice.sliceAdjust
  simp
theorem rev_places (n : Nat) : Builtin.Slice.slicePlaces ((n : Int) - 1) (-1) (-1) = n := by
  unfold Builtin.Slice.slicePlaces
  rw [if_neg (by decide)]
  by_cases h : (n : Int) - 1 > -1
  · rw [if_pos h]
    have : (-(-1) : Int) = 1 := by decide
    rw [this, Int.ediv_one]
    omega
  · rw [if_neg h]
    omega
theorem rev_applied {sl : Addr} {vs : Value} {n : Nat} {Q : Int × Int × Nat → Shared → Prop} (hs : s.heap.IsSliceOf sl .none .none vs) (ps : IsPart vs (some (-1))) (h : Q ((n : Int) - 1, -1, n) s) :
    wpAny (model prog w) A (Builtin.Slice.sliceApplied (.ref sl) (pure (n : Int))) Q E s := by
  obtain ⟨os, hos, hcs, hds⟩ := id hs
  unfold Builtin.Slice.sliceApplied Builtin.Slice.sliceFields
  refine wpAny_bind (wpAny_bind (wpAny_field hos hds (x := .none) rfl (wpAny_bind (wpAny_field hos hds (x := .none) rfl (wpAny_bind (wpAny_field hos hds (x := vs) rfl (wpAny_pure ?_)))))))
  refine wpAny_bind (slicePart_ ps ?_)
  show wpAny _ _ (if ((-1 : Int) == 0) = true then _ else _) _ _ s
  rw [if_neg (by decide)]
  refine wpAny_bind (slicePart_none (wpAny_bind (slicePart_none (wpAny_bind (wpAny_pure ?_)))))
  show wpAny _ _ (match Builtin.Slice.sliceAdjust none none (-1) (n : Int) with | (lo, hi) => pure (lo, (-1 : Int), Builtin.Slice.slicePlaces lo hi (-1))) _ _ s
  rw [rev_adjust n]
  show wpAny _ _ (pure ((n : Int) - 1, (-1 : Int), Builtin.Slice.slicePlaces ((n : Int) - 1) (-1) (-1))) _ _ s
  rw [rev_places]
  exact wpAny_pure h
theorem fm_congr {α β : Type} {f g : α → Option β} : ∀ {l : List α}, (∀ x ∈ l, f x = g x) → l.filterMap f = l.filterMap g
  | [], _ => rfl
  | x :: r, h => by
    rw [List.filterMap_cons, List.filterMap_cons, h x List.mem_cons_self, fm_congr fun y hy => h y (List.mem_cons_of_mem _ hy)]
theorem rev_pick (xs : Array Value) : ((List.range xs.size).filterMap fun (m : Nat) => xs[(((xs.size : Int) - 1) + (m : Int) * (-1)).toNat]?).toArray = xs.toList.reverse.toArray := by
  congr 1
  have e : (List.range xs.size).filterMap (fun (m : Nat) => xs[(((xs.size : Int) - 1) + (m : Int) * (-1)).toNat]?) = ((List.range xs.size).map fun k => xs.size - 1 - k).filterMap (xs[·]?) := by
    rw [List.filterMap_map]
    refine fm_congr fun m hm => ?_
    have := List.mem_range.mp hm
    have e : (((xs.size : Int) - 1) + (m : Int) * (-1)).toNat = xs.size - 1 - m := by omega
    show xs[(((xs.size : Int) - 1) + (m : Int) * (-1)).toNat]? = xs[xs.size - 1 - m]?
    rw [e]
  rw [e, PySem.W.krv_range, List.filterMap_reverse, PySem.W.krv_all]
theorem rev_item {t sl : Addr} {items : Array Value} {vs : Value} {Q : Value → Shared → Prop} (ht : IsTup s.heap t items) (hs : s.heap.IsSliceOf sl .none .none vs) (ps : IsPart vs (some (-1)))
    (h : Q (.ref s.heap.objs.size) { s with heap := s.heap.push { cls := .type "tuple", data := .seq items.toList.reverse.toArray } }) (hsz : items.size ≤ sizeLine) : wpAny (model prog w) A (getItem (.ref t) (.ref sl)) Q E s := by
  have ok : sizeOk (.seq items.toList.reverse.toArray) := by
    show items.toList.reverse.toArray.size ≤ sizeLine
    rw [List.size_toArray, List.length_reverse, Array.length_toList]; exact hsz
  obtain ⟨os, hos, hcs, hds⟩ := id hs
  have hTs : s.TypeIs (.ref sl) "slice" := ⟨os, hos, hcs⟩
  unfold getItem
  try with_reducible refine wpAny_holding ?_
  first | refine wpAny_bind (wpAny_pure ?_) | skip
  refine wpAny_bind (wpAny_sequenceKey ht.typeIs (by decide) ?_)
  refine wpAny_bind (wpAny_callSpecial?_slot (name := Str.ofString "__getitem__") ht.typeIs PyProof.Rows.slot_tuple_getitem (wpAny_call_entry PyProof.Rows.slot_tuple_getitem ht.typeIs entry_tuple_getitem ?_ (args_tuple_getitem _ _)))
  show wpAny _ _ (Builtin.Tuple.tupleItemsOf (.ref t) >>= _) _ _ s
  refine wpAny_bind (tupleItemsOf_ ht (wpAny_bind (wpAny_typeOf hTs ?_)))
  rw [if_pos (by decide)]
  refine wpAny_bind (rev_applied (n := items.size) hs ps ?_)
  have no : ¬ ((((items.size : Int) - 1) == 0 && (-1 : Int) == 1 && items.size == items.size) = true) := by simp
  show wpAny _ _ (if (((items.size : Int) - 1) == 0 && (-1 : Int) == 1 && items.size == items.size) = true then _ else _) _ _ s
  rw [if_neg no, rev_pick]
  first
    | exact wpAny_bind (m := Builtin.Tuple.tupleExact _) (wpAny_newObj_type (wpAny_pure ⟨_, rfl, wpAny_pure h⟩) ok)
    | exact wpAny_bind (wpAny_bind (m := Builtin.Tuple.tupleExact _) (wpAny_newObj_type (wpAny_pure (wpAny_pure ⟨_, rfl, wpAny_pure h⟩)) ok))
    | exact wpAny_bind (wpAny_bind (m := Builtin.Tuple.tupleExact _) (wpAny_newObj_type (wpAny_pure ⟨_, rfl, wpAny_pure h⟩) ok))
end
def tRevT (K : PySem.W.Frag) (te : TE) : TE := fun σ H Q => te σ H fun x H1 => ∃ a xs, x = .ref a ∧ SqT K H1 a xs ∧ ∀ p, H1 p = none → Q (.ref p) (upd H1 p (.tup xs.reverse))
/-- e[::-1]: a list or a tuple -/
def tRev2 (K : PySem.W.Frag) (te : TE) : TE := fun σ H Q => te σ H fun x H1 => ∃ a xs, x = .ref a ∧ ((SqL K H1 a xs ∧ ∀ p, H1 p = none → Q (.ref p) (upd H1 p (.lst xs.reverse))) ∨ (SqT K H1 a xs ∧ ∀ p, H1 p = none → Q (.ref p) (upd H1 p (.tup xs.reverse))))
section
variable {X : Cx}
theorem pe_rev2 {e : Expr} {te : TE} {k : Nat} {p1 p2 p3 pos : Pos} (he : PE X e te) : PE X (.Subscript e (.Slice none none (some (.UnaryOp .USub (.Constant (.int 1) k p1) p2)) p3) pos) (tRev2 X.K te) := by
  refine ⟨fun pins s σ H Q I h => ?_⟩
  refine Subscript_ (thn (he.run pins s σ H _ I h) fun v s1 ⟨x, H1, I1, r1, q1⟩ => ?_)
  obtain ⟨a, xs, ex, q⟩ := q1
  subst ex
  cases r1
  have st : PO X (some (.UnaryOp .USub (.Constant (.int 1) k p1) p2)) (tPart (tUn (rU fun i => .int (-i)) (tC (.int 1)))) := po_some (pe_un un_neg pe_int)
  refine wpAny_Slice (thn (po_none.run pins s1 σ H1 (fun o H2 => o = none ∧ H2 = H1) I1 ⟨rfl, rfl⟩) fun vl s2 ⟨l, H2, I2, pl, el, e2⟩ => ?_)
  subst el e2
  refine thn (po_none.run pins s2 σ H2 (fun o H3 => o = none ∧ H3 = H2) I2 ⟨rfl, rfl⟩) fun vu s3 ⟨u, H3, I3, pu, eu, e3⟩ => ?_
  subst eu e3
  refine thn (st.run pins s3 σ H3 (fun o H4 => o = some (-1) ∧ H4 = H3) I3 ⟨1, rfl, -1, rfl, rfl, rfl⟩) fun vs s4 ⟨o, H4, I4, ps, eo, e4⟩ => ?_
  subst eo e4
  have I5 : Inv X pins σ H4 { s4 with heap := s4.heap.push { cls := .type "slice", data := .fields #[vl, vu, vs] } } := I4.kept (t' := s4.toks) fun b ob q => Heap.get?_push_of_some _ q
  show wpAny (model X.prog X.w) X.A (subscriptTail e (.Slice none none (some (.UnaryOp .USub (.Constant (.int 1) k p1) p2)) p3) (.ref a) (.ref s4.heap.objs.size)) (EP X pins σ Q) X.xe { s4 with heap := s4.heap.push { cls := .type "slice", data := .fields #[vl, vu, vs] } }
  rcases q with ⟨hx, q⟩ | ⟨hx, q⟩
  · obtain ⟨its, r, ht, hz⟩ := I5.list hx
    have hl := r.length
    refine tail_any (ops := [.ref a, .ref s4.heap.objs.size]) ht.isList.typeIs (PySem.slot_list_getitem.lookup) ?_ (by with_unfolding_all rfl)
    refine wpAny_getItem_list_slice ht.isList (Heap.IsSliceOf.new _ vl vu vs) pl pu ps (by decide) ?_ (by rw [List.size_toArray]; omega)
    rw [PySem.W.krv_pick]
    exact ⟨.ref _, _, I5.laid (t' := s4.toks) (o := .lst xs.reverse) (fun b ob q => Heap.get?_push_of_some _ q) (Nat.le_refl _) ⟨by rw [List.length_reverse]; exact hz, _, 0, r.reverse, Heap.get?_push_size _ rfl⟩, rfl, q _ (I5.hok.fresh (Nat.le_refl _))⟩
  · obtain ⟨its, r, ht, hz⟩ := I5.tuple hx
    have hl := r.length
    cases pl
    cases pu
    refine tail_any (ops := [.ref a, .ref s4.heap.objs.size]) ht.typeIs (PyProof.Rows.slot_tuple_getitem.lookup) ?_ (by with_unfolding_all rfl)
    refine rev_item ht (Heap.IsSliceOf.new _ .none .none vs) ps ?_ (by rw [List.size_toArray]; omega)
    exact ⟨.ref _, _, I5.laid (t' := s4.toks) (o := .tup xs.reverse) (fun b ob q => Heap.get?_push_of_some _ q) (Nat.le_refl _) ⟨by rw [List.length_reverse]; exact hz, _, r.reverse, IsTup.new _ _⟩, rfl, q _ (I5.hok.fresh (Nat.le_refl _))⟩
end
end TL

set_option Elab.async false
set_option linter.all false
set_option maxRecDepth 100000
set_option maxHeartbeats 4000000
/-! TLa: values as trees, a small language, what it needs (wp). No program, no heap. -/
namespace TL
open PySem L2

/-- a value as a tree -/
inductive T where
  | non | bl (b : Bool) | int (i : Int) | str (x : Str) | tup (ts : List T) | lst (ts : List T) | dic (ks vs : List T) | st (ts : List T) | tape
  deriving Inhabited

mutual
def T.toD : T → PyData
  | .non => .none
  | .bl b => .bool b
  | .int i => .int i
  | .str x => .str x
  | .tup ts => .tuple (toDs ts)
  | .lst ts => .list (toDs ts)
  | .dic _ _ => .none
  | .st _ => .none
  | .tape => .none
def toDs : List T → List PyData
  | [] => []
  | t :: ts => t.toD :: toDs ts
end
theorem toDs_map (ts : List T) : toDs ts = ts.map T.toD := by
  induction ts with
  | nil => rfl
  | cons t r ih => simp only [toDs, ih, List.map_cons]
mutual
/-- plain: none, bools, ints, texts, tuples and lists of such -/
def T.pl : T → Bool
  | .tup ts => plAll ts
  | .lst ts => plAll ts
  | .dic _ _ => false
  | .st _ => false
  | .tape => false
  | _ => true
def plAll : List T → Bool
  | [] => true
  | t :: ts => t.pl && plAll ts
end
theorem plAll_eq (ts : List T) : plAll ts = ts.all T.pl := by
  induction ts with
  | nil => rfl
  | cons t r ih => simp only [plAll, ih, List.all_cons]
mutual
def T.dep : T → Nat
  | .tup ts => depAll ts + 1
  | .lst ts => depAll ts + 1
  | _ => 0
def depAll : List T → Nat
  | [] => 0
  | t :: ts => max t.dep (depAll ts)
end

/-- == of trees -/
def teq (a b : T) : Bool := PyData.eqv a.toD b.toD

mutual
/-- < of trees: none where it may raise -/
def tlt : T → T → Option Bool
  | .int i, .int j => some (decide (i < j))
  | .str x, .str y => some (decide (x.cps.toList < y.cps.toList))
  | .tup xs, .tup ys => tltAll xs ys
  | _, _ => none
def tltAll : List T → List T → Option Bool
  | [], [] => some false
  | [], _ :: _ => some true
  | _ :: _, [] => some false
  | x :: xs, y :: ys => if teq x y = true then tltAll xs ys else if cmpA xs ys = true then tlt x y else none
/-- all pairs can be compared -/
def cmpA : List T → List T → Bool
  | x :: xs, y :: ys => (teq x y || (tlt x y).isSome) && cmpA xs ys
  | _, _ => true
end

inductive Sl where
  | no | val (t : T) | own (t : T)
  deriving Inhabited
abbrev TS := List Sl

inductive Tg where
  | nm (i : Nat) | tp (ts : List Tg)

inductive BO where | add | sub | mul | fdiv | mod | pow | shl
  deriving DecidableEq
inductive CO where | eq | ne | lt | le | gt | ge | is_ | isn | inn | nin
  deriving DecidableEq
inductive Ty where | int | bool | str | tup | lst | dic
  deriving DecidableEq
/-- built-in functions of one argument or two -/
inductive B1 where | len | abs | sum | all | any | max | min | tup | lst | sorted | set | int | str | dict
  deriving DecidableEq
inductive B2 where | max | min
  deriving DecidableEq

inductive E where
  | var (i : Nat) | bor (i : Nat) | int (i : Int) | str (x : Str) | bl (b : Bool) | non | glo (k : Nat)
  | bin (op : BO) (a b : E) | neg (a : E) | not (a : E) | cmp (op : CO) (a b : E) | chain (o p : CO) (a b c : E)
  | and (a b : E) | or (a b : E) | ite (c a b : E)
  | tup (es : List E) | lst (es : List E)
  | call (f : Nat) (es : List E)
  | b1 (f : B1) (a : E) | st1 (f : B1) (a : E) | dead | rngS (l : Bool) (a b : E) | b2 (f : B2) (a b : E) | isi (t : Ty) (a : E)
  | idx (a i : E) | sli (a lo hi : E) | rev (a : E)
  | index (a b : E) | count (a b : E) | get (a b c : E)
  | rng (a b : E) | rng3 (a b c : E) | enu (a : E) | zip (a b : E) | items (a : E)
  | comp (elt : E) (tg : Tg) (src : E) (cond : E) (vs : List Nat)
  | comp2 (elt : E) (tg : Tg) (src : E) (cond : E) (tg2 : Tg) (src2 : E) (cond2 : E) (vs : List Nat)

inductive S where
  | asg (tg : Tg) (e : E) | asgO (i : Nat) (e : E) | par (ts : List (Bool × Nat)) (es : List E) | mov (i j : Nat)
  | aug (i : Nat) (op : BO) (e : E)
  | setI (i : Nat) (k e : E) | augI (i : Nat) (k : E) (op : BO) (e : E)
  | app (i : Nat) (e : E) | ext (i : Nat) (e : E) | ins (i : Nat) (k e : E) | pop (tg : Tg) (i : Nat) | popAt (tg : Tg) (i : Nat) (k : E)
  | dead | exp (e : E) | ret (e : E) | retO (i : Nat) | retN
  | ite (c : E) (a b : List S) | for_ (tg : Tg) (src : E) (body : List S) | whl (c : E) (body : List S)
  | brk | cnt | pas | frz (i : Nat)

/-! ### what an operation needs and gives -/
abbrev K1 := T → Prop
/-- two ints can be multiplied -/
def MulOk (i j : Int) : Prop := (-(2 ^ 64) < i ∧ i < 2 ^ 64) ∨ (-(2 ^ 64) < j ∧ j < 2 ^ 64) ∨ i.natAbs.log2 + j.natAbs.log2 < 1000000
def DivOk (j : Int) : Prop := 0 < j ∧ j.natAbs.log2 < 9000
def PowOk (i j : Int) : Prop := 0 ≤ j ∧ j ≤ 1000000 ∧ i.natAbs < 2 ^ 64
def b2i (b : Bool) : Int := if b then 1 else 0

def bin2 : BO → T → T → K1 → Prop
  | .add, .int i, .int j, Q => Q (.int (i + j))
  | .add, .tup a, .tup b, Q => a.length + b.length ≤ sizeLine ∧ Q (.tup (a ++ b))
  | .add, .lst a, .lst b, Q => a.length + b.length ≤ sizeLine ∧ Q (.lst (a ++ b))
  | .add, .str x, .str y, Q => x.length + y.length ≤ sizeLine ∧ Q (.str (x ++ y))
  | .sub, .int i, .int j, Q => Q (.int (i - j))
  | .mul, .int i, .int j, Q => MulOk i j ∧ Q (.int (i * j))
  | .mul, .tup a, .int j, Q => a ≠ [] ∧ 2 ≤ j ∧ j ≤ 1000 ∧ a.length ≤ 1000 ∧ Q (.tup (List.replicate j.toNat a).flatten)
  | .mul, .lst a, .int j, Q => -(2 ^ 63) ≤ j ∧ j < 2 ^ 63 ∧ a.length * j.toNat ≤ sizeLine ∧ Q (.lst (List.replicate j.toNat a).flatten)
  | .fdiv, .int i, .int j, Q => DivOk j ∧ Q (.int (i / j))
  | .mod, .int i, .int j, Q => 0 < j ∧ Q (.int (i % j))
  | .pow, .int i, .int j, Q => PowOk i j ∧ Q (.int (i ^ j.toNat))
  | .shl, .int i, .int j, Q => PowOk i j ∧ Q (.int (i * 2 ^ j.toNat))
  | _, _, _, _ => False

/-- truth -/
def tru : T → (Bool → Prop) → Prop
  | .non, Q => Q false
  | .bl b, Q => Q b
  | .int i, Q => Q (i != 0)
  | .str x, Q => x.length ≤ sizeLine ∧ Q (decide (x.length ≠ 0))
  | .tup ts, Q => Q (!ts.isEmpty)
  | .lst ts, Q => Q (!ts.isEmpty)
  | _, _ => False
/-- == can be asked -/
def EqOk (a b : T) : Prop := a.pl = true ∧ b.pl = true ∧ min a.dep b.dep ≤ 60
def isT : T → T → Option Bool
  | x, .non => some (match x with | .non => true | _ => false)
  | .bl a, .bl b => some (decide (a = b))
  | .non, .bl _ => some false
  | .int _, .bl _ => some false
  | .str _, .bl _ => some false
  | .tup _, .bl _ => some false
  | .lst _, .bl _ => some false
  | _, _ => none
def inT (x : T) (ys : List T) : Bool := ys.any fun y => teq y x
def ltF : T → T → K1 → Prop
  | .int i, .int j, Q => Q (.bl (decide (i < j)))
  | .str x, .str y, Q => Q (.bl (decide (x.cps.toList < y.cps.toList)))
  | .tup xs, .tup ys, Q => EqOk (.tup xs) (.tup ys) ∧ ∃ b, tltAll xs ys = some b ∧ Q (.bl b)
  | _, _, _ => False
def leF : T → T → K1 → Prop
  | .int i, .int j, Q => Q (.bl (decide (i ≤ j)))
  | _, _, _ => False
def inF : T → T → K1 → Prop
  | x, .tup ys, Q => EqOk x (.tup ys) ∧ Q (.bl (inT x ys))
  | x, .lst ys, Q => EqOk x (.lst ys) ∧ Q (.bl (inT x ys))
  | _, _, _ => False
def ninF : T → T → K1 → Prop
  | x, .tup ys, Q => EqOk x (.tup ys) ∧ Q (.bl (!inT x ys))
  | x, .lst ys, Q => EqOk x (.lst ys) ∧ Q (.bl (!inT x ys))
  | _, _, _ => False
def cmp2 : CO → T → T → K1 → Prop
  | .eq, x, y, Q => EqOk x y ∧ Q (.bl (teq x y))
  | .ne, x, y, Q => EqOk x y ∧ Q (.bl (!teq x y))
  | .lt, x, y, Q => ltF x y Q
  | .gt, x, y, Q => (∃ i j, x = .int i ∧ y = .int j ∧ Q (.bl (decide (j < i))))
  | .le, x, y, Q => leF x y Q
  | .ge, x, y, Q => leF y x Q
  | .is_, x, y, Q => ∃ b, isT x y = some b ∧ Q (.bl b)
  | .isn, x, y, Q => ∃ b, isT x y = some b ∧ Q (.bl (!b))
  | .inn, x, y, Q => inF x y Q
  | .nin, x, y, Q => ninF x y Q

def intsOf : List T → Option (List Int)
  | [] => some []
  | .int i :: r => (intsOf r).map (i :: ·)
  | _ => none
def blsOf : List T → Option (List Bool)
  | [] => some []
  | .bl b :: r => (blsOf r).map (b :: ·)
  | _ => none
def seqOf : T → (List T → Prop) → Prop
  | .tup ts, Q => Q ts
  | .lst ts, Q => Q ts
  | .str x, Q => x.length ≤ sizeLine ∧ Q (x.cps.toList.map fun c => .str ⟨#[c]⟩)
  | _, _ => False
/-- the greatest, the least: the first of such -/
def isMax (ns : List Int) (m : Int) : Prop := m ∈ ns ∧ ∀ y ∈ ns, y ≤ m
def isMin (ns : List Int) (m : Int) : Prop := m ∈ ns ∧ ∀ y ∈ ns, m ≤ y
def isSrt (ns ms : List Int) : Prop := ms.Perm ns ∧ ms.Pairwise (· ≤ ·)
def b1F : B1 → T → K1 → Prop
  | .len, .str x, Q => x.length ≤ sizeLine ∧ Q (.int x.length)
  | .len, .tup ts, Q => Q (.int ts.length)
  | .len, .lst ts, Q => Q (.int ts.length)
  | .abs, .int i, Q => Q (.int (if i < 0 then -i else i))
  | .sum, .lst ts, Q => ∃ ns, intsOf ts = some ns ∧ Q (.int ns.sum)
  | .sum, .tup ts, Q => ∃ ns, intsOf ts = some ns ∧ Q (.int ns.sum)
  | .all, .lst ts, Q => ∃ bs, blsOf ts = some bs ∧ Q (.bl (bs.all id))
  | .any, .lst ts, Q => ∃ bs, blsOf ts = some bs ∧ Q (.bl (bs.any id))
  | .max, .lst ts, Q => ∃ ns, intsOf ts = some ns ∧ 0 < ns.length ∧ ∀ m, isMax ns m → Q (.int m)
  | .min, .lst ts, Q => ∃ ns, intsOf ts = some ns ∧ 0 < ns.length ∧ ∀ m, isMin ns m → Q (.int m)
  | .tup, .lst ts, Q => Q (.tup ts)
  | .tup, .tup ts, Q => Q (.tup ts)
  | .lst, .lst ts, Q => Q (.lst ts)
  | .lst, .tup ts, Q => Q (.lst ts)
  | .sorted, .lst ts, Q => ∃ ns, intsOf ts = some ns ∧ ∀ ms, isSrt ns ms → Q (.lst (ms.map .int))
  | .int, .int i, Q => Q (.int i)
  | .int, .bl b, Q => Q (.int (if b then 1 else 0))
  | .str, .int i, Q => i.natAbs.log2 < 1920 ∧ Q (.str (Str.ofString (toString i)))
  | _, _, _ => False
def itemsT : T → Option (List T)
  | .lst ts => some ts
  | .tup ts => some ts
  | _ => none
/-- sorted(set(x)), len(set(x)): ints -/
def st1F : B1 → T → K1 → Prop
  | .sorted, x, Q => ∃ ts ns, itemsT x = some ts ∧ intsOf ts = some ns ∧ ns.length + 1 < 4096 ∧ ∀ ms : List Int, ms.Pairwise (· < ·) → (∀ k, k ∈ ms ↔ k ∈ ns) → Q (.lst (ms.map .int))
  | .len, x, Q => ∃ ts ns, itemsT x = some ts ∧ intsOf ts = some ns ∧ ns.length + 1 < 4096 ∧ ∀ ks : List Int, ks.Nodup → (∀ k, k ∈ ks ↔ k ∈ ns) → Q (.int ks.length)
  | _, _, _ => False
def b2F : B2 → T → T → K1 → Prop
  | .max, .int i, .int j, Q => Q (.int (if j > i then j else i))
  | .min, .int i, .int j, Q => Q (.int (if j < i then j else i))
  | _, _, _, _ => False
def isiF : Ty → T → Option Bool
  | _, .tape => none
  | _, .dic _ _ => none
  | _, .st _ => none
  | .int, .int _ => some true
  | .int, .bl _ => some true
  | .bool, .bl _ => some true
  | .str, .str _ => some true
  | .tup, .tup _ => some true
  | .lst, .lst _ => some true
  | _, _ => some false
/-- Python's place i of n -/
def ixP (n : Nat) (i : Int) : Option Nat := if 0 ≤ i then (if i < n then some i.toNat else none) else if -(n : Int) ≤ i then some (i + n).toNat else none
def idxF : T → T → K1 → Prop
  | .tup ts, .int i, Q => ∃ v, atI ts i = some v ∧ Q v
  | .lst ts, .int i, Q => ∃ v, atI ts i = some v ∧ Q v
  | .str x, .int i, Q => x.length ≤ sizeLine ∧ ∃ c, atI x.cps.toList i = some c ∧ Q (.str ⟨#[c]⟩)
  | _, _, _ => False
/-- xs[lo:hi] -/
def cutT (xs : List T) (lo hi : Option Int) : List T := (xs.drop (HT.sIx xs.length 0 lo)).take (HT.sIx xs.length xs.length hi - HT.sIx xs.length 0 lo)
def sliF : T → Option Int → Option Int → K1 → Prop
  | .tup ts, lo, hi, Q => Q (.tup (cutT ts lo hi))
  | .lst ts, lo, hi, Q => Q (.lst (cutT ts lo hi))
  | _, _, _, _ => False
/-- a part of a slice: left out, or an int -/
def wPt : Bool → (K1 → Prop) → (Option Int → Prop) → Prop
  | true, _, Q => Q none
  | false, w, Q => w fun x => ∃ i, x = .int i ∧ Q (some i)
def isNon : E → Bool
  | .non => true
  | _ => false
def revF : T → K1 → Prop
  | .tup ts, Q => Q (.tup ts.reverse)
  | .lst ts, Q => Q (.lst ts.reverse)
  | _, _ => False

/-! ### targets, walks -/
mutual
def asg : Tg → T → TS → (TS → Prop) → Prop
  | .nm i, t, σ, k => k (σ.set i (.val t))
  | .tp ts, .tup xs, σ, k => asgs ts xs σ k
  | .tp _, _, _, _ => False
def asgs : List Tg → List T → TS → (TS → Prop) → Prop
  | [], [], σ, k => k σ
  | t :: ts, x :: xs, σ, k => asg t x σ fun σ' => asgs ts xs σ' k
  | _, _, _, _ => False
end
def wipeT (σ : TS) : List Nat → TS
  | [] => σ
  | v :: vs => (wipeT σ vs).set v .no
/-- a walk that makes a list -/
def wFold (f : T → List T → (List T → Prop) → Prop) : List T → List T → (List T → Prop) → Prop
  | [], acc, Q => Q acc
  | x :: r, acc, Q => f x acc fun acc' => wFold f r acc' Q
def rngL (a : Int) (n : Nat) : List T := (List.range n).map fun k => T.int (a + (k : Nat))

structure Gm where
  fn : Nat → List T → (T → Prop) → Prop
  cs : Nat → T

def slV : TS → Nat → K1 → Prop
  | .val t :: _, 0, Q => Q t
  | _ :: r, i + 1, Q => slV r i Q
  | _, _, _ => False
def slO : TS → Nat → K1 → Prop
  | .own t :: _, 0, Q => Q t
  | _ :: r, i + 1, Q => slO r i Q
  | _, _, _ => False

def enuL (ts : List T) : List T := (List.range ts.length).zipWith (fun (k : Nat) t => T.tup [.int (k : Nat), t]) ts
def zipL (as bs : List T) : List T := as.zipWith (fun a b => T.tup [a, b]) bs

mutual
/-- an expression -/
def wE (G : Gm) : E → TS → K1 → Prop
  | .var i, σ, Q => slV σ i Q
  | .bor i, σ, Q => slO σ i Q
  | .int i, _, Q => Q (.int i)
  | .str x, _, Q => Q (.str x)
  | .bl b, _, Q => Q (.bl b)
  | .non, _, Q => Q .non
  | .glo k, _, Q => Q (G.cs k)
  | .bin op a b, σ, Q => wE G a σ fun x => wE G b σ fun y => bin2 op x y Q
  | .neg a, σ, Q => wE G a σ fun x => ∃ i, x = .int i ∧ Q (.int (-i))
  | .not a, σ, Q => wE G a σ fun x => tru x fun b => Q (.bl (!b))
  | .cmp op a b, σ, Q => wE G a σ fun x => wE G b σ fun y => cmp2 op x y Q
  | .chain o p a b c, σ, Q => wE G a σ fun x => wE G b σ fun y => cmp2 o x y fun r => ∃ d, r = .bl d ∧ if d = true then wE G c σ fun z => cmp2 p y z Q else Q (.bl false)
  | .and a b, σ, Q => wE G a σ fun x => tru x fun d => if d = true then wE G b σ Q else Q x
  | .or a b, σ, Q => wE G a σ fun x => tru x fun d => if d = true then Q x else wE G b σ Q
  | .ite c a b, σ, Q => wE G c σ fun z => tru z fun d => if d = true then wE G a σ Q else wE G b σ Q
  | .tup es, σ, Q => wEs G es σ fun ts => ts.length ≤ 1000 ∧ Q (.tup ts)
  | .lst es, σ, Q => wEs G es σ fun ts => ts.length ≤ 1000 ∧ Q (.lst ts)
  | .call f es, σ, Q => wEs G es σ fun ts => G.fn f ts Q
  | .b1 f a, σ, Q => wE G a σ fun x => b1F f x Q
  | .st1 f a, σ, Q => wE G a σ fun x => st1F f x Q
  | .b2 f a b, σ, Q => wE G a σ fun x => wE G b σ fun y => b2F f x y Q
  | .isi t a, σ, Q => wE G a σ fun x => ∃ b, isiF t x = some b ∧ Q (.bl b)
  | .idx a i, σ, Q => wE G a σ fun x => wE G i σ fun y => idxF x y Q
  | .sli a lo hi, σ, Q => wE G a σ fun x => wPt (isNon lo) (wE G lo σ) fun l => wPt (isNon hi) (wE G hi σ) fun h => sliF x l h Q
  | .rev a, σ, Q => wE G a σ fun x => revF x Q
  | .rng a b, σ, Q => wE G a σ fun x => wE G b σ fun y => ∃ i j, x = .int i ∧ y = .int j ∧ (-(2 ^ 62) ≤ i ∧ i < 2 ^ 62 ∧ -(2 ^ 62) ≤ j ∧ j < 2 ^ 62) ∧ (j - i).toNat ≤ sizeLine ∧ Q (.lst (rngL i (j - i).toNat))
  | .rngS l a b, σ, Q => wE G a σ fun x => wE G b σ fun y => ∃ i j, x = .int i ∧ y = .int j ∧ (-(2 ^ 62) ≤ i ∧ i < 2 ^ 62 ∧ -(2 ^ 62) ≤ j ∧ j < 2 ^ 62) ∧ (j - i).toNat ≤ sizeLine ∧ Q (if l = true then .lst (rngL i (j - i).toNat) else .tup (rngL i (j - i).toNat))
  | .dead, _, _ => False
  | .enu a, σ, Q => wE G a σ fun x => seqOf x fun ts => Q (.lst (enuL ts))
  | .zip a b, σ, Q => wE G a σ fun x => wE G b σ fun y => seqOf x fun ts => seqOf y fun us => Q (.lst (zipL ts us))
  | .comp elt tg src cond vs, σ, Q => wE G src σ fun z => seqOf z fun items => wFold (fun x acc k => asg tg x (wipeT σ vs) fun σ' => wE G cond σ' fun c => tru c fun d => if d = true then wE G elt σ' fun y => k (acc ++ [y]) else k acc) items [] fun ys => Q (.lst ys)
  | .comp2 elt tg src cond tg2 src2 cond2 vs, σ, Q => wE G src σ fun z => seqOf z fun items => wFold (fun x acc k => asg tg x (wipeT σ vs) fun σ' => wE G cond σ' fun c => tru c fun d => if d = true then
      wE G src2 σ' fun z2 => seqOf z2 fun items2 => wFold (fun x2 acc2 k2 => asg tg2 x2 σ' fun σ2 => wE G cond2 σ2 fun c2 => tru c2 fun d2 => if d2 = true then wE G elt σ2 fun y => acc2.length < sizeLine ∧ k2 (acc2 ++ [y]) else k2 acc2) items2 acc k else k acc) items [] fun ys => Q (.lst ys)
  | _, _, _ => False
def wEs (G : Gm) : List E → TS → (List T → Prop) → Prop
  | [], _, Q => Q []
  | e :: es, σ, Q => wE G e σ fun x => wEs G es σ fun xs => Q (x :: xs)
end
abbrev tst (G : Gm) (e : E) (σ : TS) (Q : Bool → Prop) : Prop := wE G e σ fun x => tru x Q

/-! ### statements -/
/-- what is wanted behind a statement -/
structure En where
  nx : TS → Prop
  rt : T → Prop
  bk : TS → Prop
  ct : TS → Prop
def wFor (body : En → TS → Prop) (tg : Tg) (D : En) : List T → TS → Prop
  | [], σ => D.nx σ
  | x :: r, σ => asg tg x σ fun σ' => body { D with nx := fun σ2 => wFor body tg D r σ2, ct := fun σ2 => wFor body tg D r σ2, bk := D.nx } σ'
/-- x op= y -/
def augF : BO → T → T → K1 → Prop
  | .add, .int i, .int j, Q => Q (.int (i + j))
  | .sub, .int i, .int j, Q => Q (.int (i - j))
  | .mul, .int i, .int j, Q => ((-(2 ^ 64) < i ∧ i < 2 ^ 64) ∨ (-(2 ^ 64) < j ∧ j < 2 ^ 64)) ∧ Q (.int (i * j))
  | _, _, _, _ => False
def ixSet (ts : List T) (k : T) (v : T) (Q : List T → Prop) : Prop := ∃ i j, k = .int i ∧ ixN ts.length i = some j ∧ Q (ts.set j v)
/-- stores side by side -/
def parSet : List (Bool × Nat) → List T → TS → (TS → Prop) → Prop
  | [], [], σ, k => k σ
  | (false, i) :: r, x :: xs, σ, k => parSet r xs (σ.set i (.val x)) k
  | (true, i) :: r, .lst ts :: xs, σ, k => parSet r xs (σ.set i (.own (.lst ts))) k
  | _, _, _, _ => False
mutual
def wS (G : Gm) : S → En → TS → Prop
  | .asg tg e, D, σ => wE G e σ fun x => asg tg x σ D.nx
  | .asgO i e, D, σ => wE G e σ fun x => ∃ ts, x = .lst ts ∧ D.nx (σ.set i (.own x))
  | .par ts es, D, σ => wEs G es σ fun xs => parSet ts xs σ D.nx
  | .mov i j, D, σ => slO σ j fun t => D.nx ((σ.set j .no).set i (.own t))
  | .aug i op e, D, σ => slV σ i fun x => wE G e σ fun y => augF op x y fun z => D.nx (σ.set i (.val z))
  | .setI i k e, D, σ => wE G e σ fun v => slO σ i fun t => ∃ ts, t = .lst ts ∧ wE G k σ fun y => ixSet ts y v fun ts' => D.nx (σ.set i (.own (.lst ts')))
  | .augI i k op e, D, σ => slO σ i fun t => ∃ ts, t = .lst ts ∧ wE G k σ fun y => idxF t y fun x => wE G e σ fun z => augF op x z fun v => ixSet ts y v fun ts' => D.nx (σ.set i (.own (.lst ts')))
  | .app i e, D, σ => slO σ i fun t => ∃ ts, t = .lst ts ∧ wE G e σ fun v => ts.length < sizeLine ∧ D.nx (σ.set i (.own (.lst (ts ++ [v]))))
  | .ext i e, D, σ => slO σ i fun t => ∃ ts, t = .lst ts ∧ wE G e σ fun v => ∃ us, v = .lst us ∧ ts.length + us.length ≤ sizeLine ∧ D.nx (σ.set i (.own (.lst (ts ++ us))))
  | .ins i k e, D, σ => slO σ i fun t => ∃ ts, t = .lst ts ∧ wE G k σ fun y => wE G e σ fun v => ∃ j : Nat, y = .int j ∧ j ≤ ts.length ∧ ts.length < sizeLine ∧ D.nx (σ.set i (.own (.lst (ts.take j ++ v :: ts.drop j))))
  | .pop tg i, D, σ => slO σ i fun t => ∃ ts y, t = .lst ts ∧ ts[ts.length - 1]? = some y ∧ asg tg y (σ.set i (.own (.lst ts.dropLast))) D.nx
  | .popAt tg i k, D, σ => slO σ i fun t => wE G k σ fun z => ∃ ts n j y, t = .lst ts ∧ z = .int n ∧ -(2 ^ 63) ≤ n ∧ n < 2 ^ 63 ∧ seqIndex? n ts.length = some j ∧ ts[j]? = some y ∧ asg tg y (σ.set i (.own (.lst (ts.eraseIdx j)))) D.nx
  | .exp e, D, σ => wE G e σ fun _ => D.nx σ
  | .ret e, D, σ => wE G e σ D.rt
  | .retO i, D, σ => slO σ i D.rt
  | .retN, D, _ => D.rt .non
  | .ite c a b, D, σ => tst G c σ fun d => if d = true then wSs G a D σ else wSs G b D σ
  | .for_ tg src body, D, σ => wE G src σ fun z => seqOf z fun items => wFor (fun D' σ' => wSs G body D' σ') tg D items σ
  | .whl c body, D, σ => ∃ I : Nat → TS → Prop, (∃ n, I n σ) ∧ ∀ n σ, I n σ → tst G c σ fun d => if d = true then wSs G body { D with nx := fun σ' => ∃ m, m < n ∧ I m σ', ct := fun σ' => ∃ m, m < n ∧ I m σ', bk := D.nx } σ else D.nx σ
  | .brk, D, σ => D.bk σ
  | .cnt, D, σ => D.ct σ
  | .pas, D, σ => D.nx σ
  | .dead, _, _ => False
  | .frz i, D, σ => slO σ i fun t => D.nx (σ.set i (.val t))
def wSs (G : Gm) : List S → En → TS → Prop
  | [], D, σ => D.nx σ
  | s :: r, D, σ => wS G s { D with nx := fun σ' => wSs G r D σ' } σ
end
/-- a def: its parameters' number, its slots' number, its body -/
structure Fn where
  ps : Nat
  sl : Nat
  body : List S
def startT (n : Nat) (ts : List T) : TS := ts.map Sl.val ++ List.replicate (n - ts.length) Sl.no
def wFn (G : Gm) (fr : Bool) (F : Fn) (ts : List T) (Q : T → Prop) : Prop :=
  ts.length = F.ps ∧ wSs G F.body { nx := fun _ => if fr = true then False else Q .non, rt := Q, bk := fun _ => False, ct := fun _ => False } (startT F.sl ts)
end TL

set_option Elab.async false
set_option linter.all false
set_option maxRecDepth 100000
set_option maxHeartbeats 4000000
/-! TLb: how trees stand in the abstract heap; operations by values. -/
namespace TL
open PySem PySem.Spec PyProof.Rows L2

/-- a list that nobody changes -/
def FzL (H : Hp) (a : Addr) (vs : List V) : Prop := ∃ o, H a = some (.frz o (.lst vs))
mutual
/-- the value v is the tree -/
def RT (K : PySem.W.Frag) (tp : Option (Addr × Addr)) (H : Hp) : T → V → Prop
  | .non, v => v = .non
  | .bl b, v => v = .bl b
  | .int i, v => v = .int i
  | .str x, v => v = .str x ∧ PyData.strOk x = true
  | .tup ts, v => ∃ a vs, v = .ref a ∧ SqT K H a vs ∧ RTs K tp H ts vs
  | .lst ts, v => ∃ a vs, v = .ref a ∧ FzL H a vs ∧ RTs K tp H ts vs
  | .tape, v => ∃ b c, tp = some (b, c) ∧ v = .ref b
  | .dic _ _, _ => False
  | .st _, _ => False
def RTs (K : PySem.W.Frag) (tp : Option (Addr × Addr)) (H : Hp) : List T → List V → Prop
  | [], vs => vs = []
  | t :: ts, vs => ∃ v r, vs = v :: r ∧ RT K tp H t v ∧ RTs K tp H ts r
end
/-- the tape: a list of the cells' list, the number in hand, the seed -/
def Tp (tp : Option (Addr × Addr)) (H : Hp) : Prop := ∀ b c, tp = some (b, c) → b ≠ c ∧ ∃ (x y : Int) (ns : List Int), H b = some (.lst [.ref c, .int x, .int y]) ∧ H c = some (.lst (ns.map V.int)) ∧ 0 ≤ x ∧ 0 ≤ y ∧ y < 2 ^ 62
def OffT (tp : Option (Addr × Addr)) (a : Addr) : Prop := ∀ b c, tp = some (b, c) → a ≠ b ∧ a ≠ c
/-- all that is tracked stays, but the tape -/
def Kp (tp : Option (Addr × Addr)) (H H' : Hp) : Prop := ∀ a o, H a = some o → OffT tp a → H' a = some o

section
variable {K : PySem.W.Frag} {tp : Option (Addr × Addr)} {H H1 H2 : Hp} {a : Addr}
theorem Kp.refl : Kp tp H H := fun _ _ e _ => e
theorem Kp.trans (a : Kp tp H H1) (b : Kp tp H1 H2) : Kp tp H H2 := fun p o e n => b p o (a p o e n) n
/-- what is neither list nor nothing lies off the tape -/
theorem Tp.off (t : Tp tp H) (h : ∀ xs, H a ≠ some (.lst xs)) : OffT tp a := fun b c e => by
  obtain ⟨_, x, y, ns, h1, h2, _⟩ := t b c e
  exact ⟨fun z => h _ (z ▸ h1), fun z => h _ (z ▸ h2)⟩
theorem Tp.offN (t : Tp tp H) (h : H a = none) : OffT tp a := t.off fun xs e => by rw [h] at e; cases e
theorem Kp.free (k : Kp tp H H1) (t : Tp tp H1) (h : H1 a = none) : H a = none := by
  cases e : H a with
  | none => rfl
  | some o => rw [k a o e (t.offN h)] at h; cases h
theorem Kp.new {o : HO} (h : H a = none) : Kp tp H (L2.upd H a o) := fun b u e _ => by
  rw [upd_ne (ne_of_none e h)]; exact e
theorem Tp.new {o : HO} (t : Tp tp H) (h : H a = none) : Tp tp (L2.upd H a o) := fun b c e => by
  obtain ⟨n, x, y, ns, h1, h2, h3⟩ := t b c e
  exact ⟨n, x, y, ns, by rw [upd_ne (ne_of_none h1 h)]; exact h1, by rw [upd_ne (ne_of_none h2 h)]; exact h2, h3⟩
/-- a change off the tape -/
theorem Tp.updOff {o : HO} (t : Tp tp H) (h : OffT tp a) : Tp tp (L2.upd H a o) := fun b c e => by
  obtain ⟨n, x, y, ns, h1, h2, h3⟩ := t b c e
  obtain ⟨z1, z2⟩ := h b c e
  exact ⟨n, x, y, ns, by rw [upd_ne (Ne.symm z1)]; exact h1, by rw [upd_ne (Ne.symm z2)]; exact h2, h3⟩
/-- what is no list stays -/
def Stn (H H' : Hp) : Prop := ∀ a o, H a = some o → (∀ xs, o ≠ .lst xs) → H' a = some o
theorem Kp.stn (k : Kp tp H H1) (t : Tp tp H) : Stn H H1 := fun a o e n => k a o e (t.off fun xs z => by rw [e] at z; cases z; exact n _ rfl)
theorem Stn.upd {o : HO} {xs : List V} (h : H a = some (.lst xs)) : Stn H (L2.upd H a o) := fun b u e n => by
  rw [upd_ne (fun z => by subst z; rw [h] at e; cases e; exact n _ rfl)]; exact e
theorem Stn.new {o : HO} (h : H a = none) : Stn H (L2.upd H a o) := fun b u e _ => by
  rw [upd_ne (ne_of_none e h)]; exact e
theorem SqT.stn {vs : List V} (k : Stn H H1) (h : SqT K H a vs) : SqT K H1 a vs := by
  rcases h with (h | ⟨o, h⟩) | h
  · exact .inl (.inl (k _ _ h fun xs e => by cases e))
  · exact .inl (.inr ⟨o, k _ _ h fun xs e => by cases e⟩)
  · exact .inr h
theorem FzL.stn {vs : List V} (k : Stn H H1) (h : FzL H a vs) : FzL H1 a vs := by
  obtain ⟨o, h⟩ := h
  exact ⟨o, k _ _ h fun xs e => by cases e⟩
mutual
theorem RT.stn (k : Stn H H1) : ∀ (u : T) (v : V), RT K tp H u v → RT K tp H1 u v
  | .non, _, h => by simp only [RT] at h ⊢; exact h
  | .bl _, _, h => by simp only [RT] at h ⊢; exact h
  | .int _, _, h => by simp only [RT] at h ⊢; exact h
  | .str _, _, h => by simp only [RT] at h ⊢; exact h
  | .tup ts, _, h => by
    simp only [RT] at h ⊢
    obtain ⟨a, vs, e, s, r⟩ := h
    exact ⟨a, vs, e, SqT.stn k s, RTs.stn k ts vs r⟩
  | .lst ts, _, h => by
    simp only [RT] at h ⊢
    obtain ⟨a, vs, e, s, r⟩ := h
    exact ⟨a, vs, e, FzL.stn k s, RTs.stn k ts vs r⟩
  | .tape, _, h => by simp only [RT] at h ⊢; exact h
  | .dic _ _, _, h => by simp only [RT] at h
  | .st _, _, h => by simp only [RT] at h
theorem RTs.stn (k : Stn H H1) : ∀ (us : List T) (vs : List V), RTs K tp H us vs → RTs K tp H1 us vs
  | [], _, h => by simp only [RTs] at h ⊢; exact h
  | u :: us, _, h => by
    simp only [RTs] at h ⊢
    obtain ⟨v, r, e, h1, h2⟩ := h
    exact ⟨v, r, e, RT.stn k u v h1, RTs.stn k us r h2⟩
end
theorem RT.kp (k : Kp tp H H1) (t : Tp tp H) (u : T) (v : V) (h : RT K tp H u v) : RT K tp H1 u v := RT.stn (k.stn t) u v h
theorem RTs.kp (k : Kp tp H H1) (t : Tp tp H) (us : List T) (vs : List V) (h : RTs K tp H us vs) : RTs K tp H1 us vs := RTs.stn (k.stn t) us vs h
theorem RT.str_i {x : Str} (h : PyData.strOk x = true) : RT K tp H (.str x) (.str x) := by simp only [RT]; exact ⟨trivial, h⟩
theorem RT.int_i (i : Int) : RT K tp H (.int i) (.int i) := by simp only [RT]
theorem RT.bl_i (i : Bool) : RT K tp H (.bl i) (.bl i) := by simp only [RT]
theorem RT.non_i : RT K tp H .non .non := by simp only [RT]
theorem RT.tup_i {ts : List T} {vs : List V} (h : SqT K H a vs) (r : RTs K tp H ts vs) : RT K tp H (.tup ts) (.ref a) := by simp only [RT]; exact ⟨a, vs, rfl, h, r⟩
theorem RT.lst_i {ts : List T} {vs : List V} (h : FzL H a vs) (r : RTs K tp H ts vs) : RT K tp H (.lst ts) (.ref a) := by simp only [RT]; exact ⟨a, vs, rfl, h, r⟩
theorem RTs.nil : RTs K tp H [] [] := by simp only [RTs]
theorem RTs.cons {t : T} {v : V} {ts : List T} {vs : List V} (h : RT K tp H t v) (r : RTs K tp H ts vs) : RTs K tp H (t :: ts) (v :: vs) := by simp only [RTs]; exact ⟨v, vs, rfl, h, r⟩
theorem RTs.iff : ∀ {ts : List T} {vs : List V}, RTs K tp H ts vs ↔ ts.length = vs.length ∧ ∀ (i : Nat) (t : T) (v : V), ts[i]? = some t → vs[i]? = some v → RT K tp H t v
  | [], vs => by
    simp only [RTs]
    constructor
    · rintro rfl; exact ⟨rfl, fun i t v h => by simp at h⟩
    · rintro ⟨h, _⟩; exact List.eq_nil_of_length_eq_zero h.symm
  | t :: ts, vs => by
    simp only [RTs]
    constructor
    · rintro ⟨v, r, rfl, h1, h2⟩
      obtain ⟨l, h⟩ := RTs.iff.mp h2
      refine ⟨by simp [l], fun i t' v' e1 e2 => ?_⟩
      cases i with
      | zero => simp at e1 e2; subst e1 e2; exact h1
      | succ i => exact h i t' v' (by simpa using e1) (by simpa using e2)
    · rintro ⟨l, h⟩
      cases vs with
      | nil => simp at l
      | cons v r => exact ⟨v, r, rfl, h 0 t v rfl rfl, RTs.iff.mpr ⟨by simpa using l, fun i t' v' e1 e2 => h (i + 1) t' v' (by simpa using e1) (by simpa using e2)⟩⟩
theorem RTs.len {ts : List T} {vs : List V} (h : RTs K tp H ts vs) : ts.length = vs.length := (RTs.iff.mp h).1
theorem RTs.get {ts : List T} {vs : List V} {i : Nat} {t : T} (h : RTs K tp H ts vs) (e : ts[i]? = some t) : ∃ v, vs[i]? = some v ∧ RT K tp H t v := by
  obtain ⟨l, q⟩ := RTs.iff.mp h
  have hi : i < vs.length := by rw [← l]; exact (List.getElem?_eq_some_iff.mp e).1
  exact ⟨vs[i], List.getElem?_eq_getElem hi, q i t _ e (List.getElem?_eq_getElem hi)⟩
theorem RTs.get' {ts : List T} {vs : List V} {i : Nat} {v : V} (h : RTs K tp H ts vs) (e : vs[i]? = some v) : ∃ t, ts[i]? = some t ∧ RT K tp H t v := by
  obtain ⟨l, q⟩ := RTs.iff.mp h
  have hi : i < ts.length := by rw [l]; exact (List.getElem?_eq_some_iff.mp e).1
  exact ⟨ts[i], List.getElem?_eq_getElem hi, q i _ v (List.getElem?_eq_getElem hi) e⟩
theorem RTs.app {ts us : List T} {vs ws : List V} (h : RTs K tp H ts vs) (g : RTs K tp H us ws) : RTs K tp H (ts ++ us) (vs ++ ws) := by
  induction ts generalizing vs with
  | nil => simp only [RTs] at h; subst h; exact g
  | cons t r ih =>
    simp only [RTs] at h
    obtain ⟨v, r', rfl, h1, h2⟩ := h
    exact .cons h1 (ih h2)
theorem RTs.take {ts : List T} {vs : List V} (n : Nat) (h : RTs K tp H ts vs) : RTs K tp H (ts.take n) (vs.take n) := by
  obtain ⟨l, q⟩ := RTs.iff.mp h
  refine RTs.iff.mpr ⟨by simp [l], fun i t v e1 e2 => ?_⟩
  rw [List.getElem?_take] at e1 e2
  split at e1
  · rename_i hi; rw [if_pos hi] at e2; exact q i t v e1 e2
  · cases e1
theorem RTs.drop {ts : List T} {vs : List V} (n : Nat) (h : RTs K tp H ts vs) : RTs K tp H (ts.drop n) (vs.drop n) := by
  obtain ⟨l, q⟩ := RTs.iff.mp h
  refine RTs.iff.mpr ⟨by simp [l], fun i t v e1 e2 => ?_⟩
  rw [List.getElem?_drop] at e1 e2
  exact q _ t v e1 e2
theorem RTs.set {ts : List T} {vs : List V} {t : T} {v : V} (n : Nat) (h : RTs K tp H ts vs) (g : RT K tp H t v) : RTs K tp H (ts.set n t) (vs.set n v) := by
  obtain ⟨l, q⟩ := RTs.iff.mp h
  refine RTs.iff.mpr ⟨by simp [l], fun i t' v' e1 e2 => ?_⟩
  rw [List.getElem?_set] at e1 e2
  by_cases hn : n = i
  · rw [if_pos hn] at e1 e2
    split at e1
    · rename_i h1
      rw [if_pos (by rw [← l]; exact h1)] at e2
      cases e1; cases e2; exact g
    · cases e1
  · rw [if_neg hn] at e1 e2
    exact q i t' v' e1 e2
theorem RTs.rev {ts : List T} {vs : List V} (h : RTs K tp H ts vs) : RTs K tp H ts.reverse vs.reverse := by
  obtain ⟨l, q⟩ := RTs.iff.mp h
  refine RTs.iff.mpr ⟨by simp [l], fun i t v e1 e2 => ?_⟩
  have h1 : i < ts.length := by
    have := (List.getElem?_eq_some_iff.mp e1).1
    simpa using this
  rw [List.getElem?_reverse h1] at e1
  rw [List.getElem?_reverse (by omega)] at e2
  exact q _ t v e1 (by rw [l]; exact e2)
theorem RTs.erase {ts : List T} {vs : List V} (n : Nat) (h : RTs K tp H ts vs) : RTs K tp H (ts.eraseIdx n) (vs.eraseIdx n) := by
  rw [List.eraseIdx_eq_take_drop_succ, List.eraseIdx_eq_take_drop_succ]
  exact (h.take n).app (h.drop (n + 1))
theorem RTs.ints : ∀ {ts : List T} {vs : List V} {ns : List Int}, RTs K tp H ts vs → intsOf ts = some ns → vs = ns.map V.int
  | [], vs, ns, h, e => by simp only [RTs] at h; simp only [intsOf] at e; cases e; exact h
  | t :: ts, vs, ns, h, e => by
    simp only [RTs] at h
    obtain ⟨v, r, rfl, h1, h2⟩ := h
    cases t <;> simp only [intsOf] at e <;> try (cases e; done)
    rename_i i
    cases e2 : intsOf ts with
    | none => rw [e2] at e; cases e
    | some ms =>
      rw [e2] at e
      simp only [Option.map_some, Option.some.injEq] at e
      subst e
      simp only [RT] at h1
      rw [h1, RTs.ints h2 e2]
      rfl
theorem RTs.of_ints : ∀ (ns : List Int), RTs K tp H (ns.map T.int) (ns.map V.int)
  | [] => .nil
  | n :: r => .cons (by simp only [RT]) (RTs.of_ints r)
theorem RTs.bls : ∀ {ts : List T} {vs : List V} {ns : List Bool}, RTs K tp H ts vs → blsOf ts = some ns → vs = ns.map V.bl
  | [], vs, ns, h, e => by simp only [RTs] at h; simp only [blsOf] at e; cases e; exact h
  | t :: ts, vs, ns, h, e => by
    simp only [RTs] at h
    obtain ⟨v, r, rfl, h1, h2⟩ := h
    cases t <;> simp only [blsOf] at e <;> try (cases e; done)
    rename_i i
    cases e2 : blsOf ts with
    | none => rw [e2] at e; cases e
    | some ms =>
      rw [e2] at e
      simp only [Option.map_some, Option.some.injEq] at e
      subst e
      simp only [RT] at h1
      rw [h1, RTs.bls h2 e2]
      rfl

/-! ### lists that are read, lists that are owned -/
/-- an owned thing at p -/
def RO (K : PySem.W.Frag) (tp : Option (Addr × Addr)) (H : Hp) (t : T) (p : Addr) : Prop := OffT tp p ∧ ∃ ts vs, t = .lst ts ∧ H p = some (.lst vs) ∧ RTs K tp H ts vs
theorem RO.kp {t : T} {p : Addr} (k : Kp tp H H1) (tt : Tp tp H) (h : RO K tp H t p) : RO K tp H1 t p := by
  obtain ⟨o, ts, vs, e, e1, r⟩ := h
  exact ⟨o, ts, vs, e, k _ _ e1 o, RTs.kp k tt ts vs r⟩
/-- a value that may be read now -/
def RB (K : PySem.W.Frag) (tp : Option (Addr × Addr)) (H : Hp) (t : T) (v : V) : Prop := RT K tp H t v ∨ ∃ p, v = .ref p ∧ RO K tp H t p
theorem RB.kp {t : T} {v : V} (k : Kp tp H H1) (tt : Tp tp H) (h : RB K tp H t v) : RB K tp H1 t v := by
  rcases h with h | ⟨p, e, h⟩
  · exact .inl (RT.kp k tt t v h)
  · exact .inr ⟨p, e, h.kp k tt⟩
/-- a list that is read -/
theorem RB.lst {ts : List T} {v : V} (h : RB K tp H (.lst ts) v) : ∃ a vs, v = .ref a ∧ Rd H a (.lst vs) ∧ RTs K tp H ts vs := by
  rcases h with h | ⟨p, e, _, ts', vs, e1, e2, r⟩
  · simp only [RT] at h
    obtain ⟨a, vs, e, ⟨o, f⟩, r⟩ := h
    exact ⟨a, vs, e, .inr ⟨o, f⟩, r⟩
  · cases e1
    exact ⟨p, vs, e, .inl e2, r⟩
theorem RB.tup {ts : List T} {v : V} (h : RB K tp H (.tup ts) v) : ∃ a vs, v = .ref a ∧ SqT K H a vs ∧ RTs K tp H ts vs := by
  rcases h with h | ⟨p, e, _, ts', vs, e1, e2, r⟩
  · simpa only [RT] using h
  · cases e1
theorem RB.rt {t : T} {v : V} (h : RB K tp H t v) (n : ∀ ts, t ≠ .lst ts) : RT K tp H t v := by
  rcases h with h | ⟨p, e, _, ts', vs, e1, e2, r⟩
  · exact h
  · exact absurd e1 (n _)
/-- a new thing, nobody's yet; what is no list stands as it is -/
def RN (K : PySem.W.Frag) (tp : Option (Addr × Addr)) (H0 H : Hp) (t : T) (v : V) : Prop := (∃ p ts vs, t = .lst ts ∧ v = .ref p ∧ H0 p = none ∧ H p = some (.lst vs) ∧ RTs K tp H ts vs) ∨ ((∀ ts, t ≠ .lst ts) ∧ RT K tp H t v)
theorem RN.of {H0 : Hp} {t : T} {v : V} (n : ∀ ts, t ≠ .lst ts) (h : RT K tp H t v) : RN K tp H0 H t v := .inr ⟨n, h⟩
theorem RN.lst {H0 : Hp} {p : Addr} {ts : List T} {vs : List V} (h0 : H0 p = none) (h : H p = some (.lst vs)) (r : RTs K tp H ts vs) : RN K tp H0 H (.lst ts) (.ref p) := .inl ⟨p, ts, vs, rfl, rfl, h0, h, r⟩
/-- seen from further back -/
theorem RN.back {H0 : Hp} {t : T} {v : V} (k : Kp tp H0 H) (tt : Tp tp H) (h : RN K tp H H1 t v) : RN K tp H0 H1 t v := by
  rcases h with ⟨p, ts, vs, e, e1, h0, h⟩ | h
  · exact .inl ⟨p, ts, vs, e, e1, k.free tt h0, h⟩
  · exact .inr h
theorem RN.kp {H0 : Hp} {t : T} {v : V} (k0 : Kp tp H0 H) (t0 : Tp tp H0) (k : Kp tp H H1) (tt : Tp tp H) (h : RN K tp H0 H t v) : RN K tp H0 H1 t v := by
  rcases h with ⟨p, ts, vs, e, e1, h0, h, r⟩ | ⟨n, h⟩
  · exact .inl ⟨p, ts, vs, e, e1, h0, k _ _ h (t0.offN h0), RTs.kp k tt ts vs r⟩
  · exact .inr ⟨n, RT.kp k tt t v h⟩

/-! ### data -/
mutual
theorem RT.dp : ∀ (u : T) (v : V), u.pl = true → RT K tp H u v → Dp K H v u.toD
  | .non, _, _, h => by simp only [RT] at h; subst h; exact Dp.non
  | .bl b, _, _, h => by simp only [RT] at h; subst h; exact Dp.bl b
  | .int i, _, _, h => by simp only [RT] at h; subst h; exact Dp.int i
  | .str x, _, _, h => by simp only [RT] at h; rw [h.1]; exact Dp.str x
  | .tup ts, _, p, h => by
    simp only [RT] at h
    simp only [T.pl] at p
    obtain ⟨a, vs, rfl, s, r⟩ := h
    exact Dp.tup s (RTs.dp ts vs p r)
  | .lst ts, _, p, h => by
    simp only [RT] at h
    simp only [T.pl] at p
    obtain ⟨a, vs, rfl, ⟨o, s⟩, r⟩ := h
    exact Dp.lst (.inl (.inr ⟨o, s⟩)) (RTs.dp ts vs p r)
  | .tape, _, p, _ => by simp [T.pl] at p
  | .dic _ _, _, p, _ => by simp [T.pl] at p
  | .st _, _, p, _ => by simp [T.pl] at p
theorem RTs.dp : ∀ (us : List T) (vs : List V), plAll us = true → RTs K tp H us vs → DpAll K H vs (toDs us)
  | [], _, _, h => by simp only [RTs] at h; subst h; exact DpAll.nil
  | u :: us, _, p, h => by
    simp only [RTs] at h
    simp only [plAll, Bool.and_eq_true] at p
    obtain ⟨v, r, rfl, h1, h2⟩ := h
    exact DpAll.cons (RT.dp u v p.1 h1) (RTs.dp us r p.2 h2)
end
theorem RB.dp {u : T} {v : V} (p : u.pl = true) (h : RB K tp H u v) : Dp K H v u.toD := by
  rcases h with h | ⟨q, rfl, _, ts, vs, rfl, e2, r⟩
  · exact RT.dp u v p h
  · simp only [T.pl] at p
    exact Dp.lst (.inl (.inl e2)) (RTs.dp ts vs p r)
mutual
theorem RT.lay : ∀ (u : T) (v : V), u.pl = true → RT K tp H u v → u.toD.canLay0 = true
  | .non, _, _, _ => by simp only [T.toD, PyData.canLay0]
  | .bl b, _, _, _ => by simp only [T.toD, PyData.canLay0]
  | .int i, _, _, _ => by simp only [T.toD, PyData.canLay0]
  | .str x, _, _, h => by simp only [RT] at h; simp only [T.toD, PyData.canLay0]; exact h.2
  | .tup ts, _, p, h => by
    simp only [RT] at h
    simp only [T.pl] at p
    obtain ⟨a, vs, rfl, s, r⟩ := h
    simp only [T.toD, PyData.canLay0]
    exact RTs.lay ts vs p r
  | .lst ts, _, p, h => by
    simp only [RT] at h
    simp only [T.pl] at p
    obtain ⟨a, vs, rfl, s, r⟩ := h
    simp only [T.toD, PyData.canLay0]
    exact RTs.lay ts vs p r
  | .tape, _, p, _ => by simp [T.pl] at p
  | .dic _ _, _, p, _ => by simp [T.pl] at p
  | .st _, _, p, _ => by simp [T.pl] at p
theorem RTs.lay : ∀ (us : List T) (vs : List V), plAll us = true → RTs K tp H us vs → PyData.canLayAll0 (toDs us) = true
  | [], _, _, h => by simp only [toDs, PyData.canLayAll0]
  | u :: us, _, p, h => by
    simp only [RTs] at h
    simp only [plAll, Bool.and_eq_true] at p
    obtain ⟨v, r, rfl, h1, h2⟩ := h
    simp only [toDs, PyData.canLayAll0, RT.lay u v p.1 h1, RTs.lay us r p.2 h2, Bool.and_self]
end
theorem RB.lay {u : T} {v : V} (p : u.pl = true) (h : RB K tp H u v) : u.toD.canLay0 = true := by
  rcases h with h | ⟨q, rfl, _, ts, vs, rfl, e2, r⟩
  · exact RT.lay u v p h
  · simp only [T.pl] at p
    simp only [T.toD, PyData.canLay0]
    exact RTs.lay ts vs p r
end
end TL

set_option Elab.async false
set_option linter.all false
set_option maxRecDepth 100000
set_option maxHeartbeats 4000000
/-! TLc: operations by trees. -/
namespace TL
open PySem PySem.Spec PyProof.Rows L2

mutual
theorem toD_depth : ∀ t : T, t.toD.depth = t.dep
  | .non => rfl
  | .bl _ => rfl
  | .int _ => rfl
  | .str _ => rfl
  | .tup ts => by simp only [T.toD, PyData.depth, T.dep, toDs_depth ts]
  | .lst ts => by simp only [T.toD, PyData.depth, T.dep, toDs_depth ts]
  | .dic _ _ => rfl
  | .st _ => rfl
  | .tape => rfl
theorem toDs_depth : ∀ ts : List T, PyData.depthAll (toDs ts) = depAll ts
  | [] => rfl
  | t :: ts => by simp only [toDs, PyData.depthAll, depAll, toD_depth t, toDs_depth ts]
end

section
variable {X : Cx} {tp : Option (Addr × Addr)}
/-- what an operation on two readable trees gives -/
def rT2 (K : PySem.W.Frag) (tp : Option (Addr × Addr)) (f : T → T → K1 → Prop) : R2 := fun x y H QL => ∃ tx ty Q, Tp tp H ∧ RB K tp H tx x ∧ RB K tp H ty y ∧ f tx ty Q ∧ ∀ u v H', Kp tp H H' → Tp tp H' → RN K tp H H' u v → Q u → QL v H'
def toOp : BO → Operator
  | .add => .Add | .sub => .Sub | .mul => .Mult | .fdiv => .FloorDiv | .mod => .Mod | .pow => .Pow | .shl => .LShift
def toCo : CO → CmpOp
  | .eq => .Eq | .ne => .NotEq | .lt => .Lt | .le => .LtE | .gt => .Gt | .ge => .GtE | .is_ => .Is | .isn => .IsNot | .inn => .In | .nin => .NotIn

theorem rd_ok {pins : List (Addr × Obj)} {s : Shared} {σ : L2.St} {H : Hp} {a : Addr} {vs : List V} (I : Inv X pins σ H s) (h : Rd H a (.lst vs)) :
    vs.length ≤ sizeLine ∧ ∃ (its : List Value) (n : Nat), Vals vs its ∧ vs.length = its.length ∧ s.heap.get? a = some { cls := .type "list", data := .seq its.toArray n } := by
  obtain ⟨z, its, n, r, e⟩ := h.ok I.hok
  exact ⟨z, its, n, r, r.length, e⟩

/-- a new list at hand -/
theorem new_lst {H : Hp} {tp : Option (Addr × Addr)} {K : PySem.W.Frag} {ts : List T} {vs : List V} {Q : K1} {QL : VK} (t : Tp tp H) (r : RTs K tp H ts vs) (q : Q (.lst ts))
    (k : ∀ u v H', Kp tp H H' → Tp tp H' → RN K tp H H' u v → Q u → QL v H') : ∀ p, H p = none → QL (.ref p) (upd H p (.lst vs)) := fun p hp =>
  k _ _ _ (Kp.new hp) (t.new hp) (RN.lst hp upd_same (RTs.stn (Stn.new hp) _ _ r)) q
theorem new_tup {H : Hp} {tp : Option (Addr × Addr)} {K : PySem.W.Frag} {ts : List T} {vs : List V} {Q : K1} {QL : VK} (t : Tp tp H) (r : RTs K tp H ts vs) (q : Q (.tup ts))
    (k : ∀ u v H', Kp tp H H' → Tp tp H' → RN K tp H H' u v → Q u → QL v H') : ∀ p, H p = none → QL (.ref p) (upd H p (.tup vs)) := fun p hp =>
  k _ _ _ (Kp.new hp) (t.new hp) (RN.of (by intro _ z; cases z) (by simp only [RT]; exact ⟨p, vs, rfl, SqT.of upd_same, RTs.stn (Stn.new hp) _ _ r⟩)) q
theorem same_val {H : Hp} {tp : Option (Addr × Addr)} {K : PySem.W.Frag} {u : T} {v : V} {Q : K1} {QL : VK} (t : Tp tp H) (n : ∀ ts, u ≠ .lst ts) (r : RT K tp H u v) (q : Q u)
    (k : ∀ u v H', Kp tp H H' → Tp tp H' → RN K tp H H' u v → Q u → QL v H') : QL v H := k _ _ _ Kp.refl t (RN.of n r) q
theorem int_val {H : Hp} {tp : Option (Addr × Addr)} {K : PySem.W.Frag} {i : Int} {Q : K1} {QL : VK} (t : Tp tp H) (q : Q (.int i))
    (k : ∀ u v H', Kp tp H H' → Tp tp H' → RN K tp H H' u v → Q u → QL v H') : QL (.int i) H := same_val t (by intro _ z; cases z) (by simp only [RT]) q k
theorem bl_val {H : Hp} {tp : Option (Addr × Addr)} {K : PySem.W.Frag} {i : Bool} {Q : K1} {QL : VK} (t : Tp tp H) (q : Q (.bl i))
    (k : ∀ u v H', Kp tp H H' → Tp tp H' → RN K tp H H' u v → Q u → QL v H') : QL (.bl i) H := same_val t (by intro _ z; cases z) (by simp only [RT]) q k
theorem RB.int {H : Hp} {tp : Option (Addr × Addr)} {K : PySem.W.Frag} {i : Int} {v : V} (h : RB K tp H (.int i) v) : v = .int i := by
  have := h.rt (by intro _ z; cases z)
  simpa only [RT] using this
theorem RB.bl {H : Hp} {tp : Option (Addr × Addr)} {K : PySem.W.Frag} {i : Bool} {v : V} (h : RB K tp H (.bl i) v) : v = .bl i := by
  have := h.rt (by intro _ z; cases z)
  simpa only [RT] using this
theorem RB.non {H : Hp} {tp : Option (Addr × Addr)} {K : PySem.W.Frag} {v : V} (h : RB K tp H .non v) : v = .non := by
  have := h.rt (by intro _ z; cases z)
  simpa only [RT] using this
theorem RB.str {H : Hp} {tp : Option (Addr × Addr)} {K : PySem.W.Frag} {i : Str} {v : V} (h : RB K tp H (.str i) v) : v = .str i ∧ PyData.strOk i = true := by
  have := h.rt (by intro _ z; cases z)
  simpa only [RT] using this

/-- list + list, of lists that are read -/
theorem op_catL {f : V → V → Hp → VK → Prop} : OpR X (binaryOp .Add) (fun x y H Q => ∃ l b xs zs, x = .ref l ∧ y = .ref b ∧ Rd H l (.lst xs) ∧ Rd H b (.lst zs) ∧ xs.length + zs.length ≤ sizeLine ∧ ∀ p, H p = none → Q (.ref p) (upd H p (.lst (xs ++ zs)))) := by
  intro pins s σ H x y v u Q I rx ry h
  obtain ⟨l, b, xs, zs, rfl, rfl, hH, hB, hz, q⟩ := h
  cases rx
  cases ry
  obtain ⟨z, its, n, r, hl, e⟩ := rd_ok I hH
  obtain ⟨z2, its2, n2, r2, hl2, e2⟩ := rd_ok I hB
  have sz : its.toArray.size + its2.toArray.size ≤ sizeLine := by simp only [List.size_toArray]; omega
  refine PySem.P.add_list e e2 ?_ sz
  have ea : its.toArray ++ its2.toArray = (its ++ its2).toArray := by simp
  rw [ea]
  exact ⟨.ref _, _, I.lnew (t' := s.toks) (r.append r2) (by simpa using hz), rfl, q _ I.fresh⟩
theorem op_one {g : Value → Value → Sem Value} {r : R2} (h : OpR X g r) {r' : R2} (i : ∀ x y H Q, r' x y H Q → r x y H Q) : OpR X g r' := fun pins s σ H x y v u Q I rx ry q => h pins s σ H x y v u Q I rx ry (i _ _ _ _ q)

theorem rep_arr (its : List Value) (m : Nat) : List.foldl (fun x1 x2 => x1 ++ x2) #[] (List.replicate (if its.toArray.isEmpty = true then 0 else m) its.toArray) = (List.replicate m its).flatten.toArray := by
  have f0 := fun m : Nat => (foldl_rep its m []).trans (by rw [List.nil_append])
  cases its with
  | nil => simp
  | cons a r' => rw [if_neg (by simp)]; exact f0 m
/-- a read list times an int -/
theorem op_repL : OpR X (binaryOp .Mult) (fun x y H Q => ∃ l k xs, x = .ref l ∧ y = .int k ∧ Rd H l (.lst xs) ∧ (-(2 ^ 63) ≤ k ∧ k < 2 ^ 63) ∧ xs.length * k.toNat ≤ sizeLine ∧ ∀ p, H p = none → Q (.ref p) (upd H p (.lst (List.replicate k.toNat xs).flatten))) := by
  intro pins s σ H x y v u Q I rx ry h
  obtain ⟨l, k, xs, rfl, rfl, hH, ⟨h1, h2⟩, hz, q⟩ := h
  cases rx
  obtain ⟨t, rfl⟩ := ry
  obtain ⟨z, its, n, r, hl, e⟩ := rd_ok I hH
  have sz : its.toArray.size * k.toNat ≤ sizeLine := by simp only [List.size_toArray]; rw [← hl]; exact hz
  have c1 : ¬ its.toArray.size * k.toNat > (2 ^ 63 - 1) / 8 := fun c => by
    have : (sizeLine : Nat) ≤ (2 ^ 63 - 1) / 8 := by decide
    omega
  have c2 : ¬ (!Builtin.List.listFitsIndex k) = true := fun c => by rw [fitsIndex_both h1 h2] at c; cases c
  have c3 : ¬ Builtin.List.listTooLong (its.toArray.size * k.toNat) = true := fun c => by rw [notLongL sz] at c; cases c
  refine wpAny_binaryOp_repeat_ref (T := "list") (U := "int") (by decide) ⟨_, e, rfl⟩ (fun s' => typeIs_int s' k t) noFill_list_mul F.fills_int_mul F.slot_int_rmul repeat_list F.slot_int_index.lookup ?_
  refine call_meets F.slot_int_rmul (typeIs_int s k t) F.entry_int_rmul (F.args_int_rmul_2 _ _) (int___rmul___int_list k t l its.toArray n) ⟨e, rfl, ⟨_, e, rfl⟩, ?_⟩
  refine call_meets F.slot_list_mul ⟨_, e, rfl⟩ F.entry_list_mul (F.args_list_mul_2 _ _) (AutoListH.list___mul___list_int_3 l its.toArray n k t c2 c1 c3) ⟨e, ?_⟩
  rw [rep_arr]
  exact ⟨.ref _, _, I.lnew (t' := s.toks) (r.rep k.toNat) (by rw [PyProof.Rows.lm_len_rep_flat, Nat.mul_comm]; exact hz), rfl, q _ I.fresh⟩
theorem rep_rts {H : Hp} {tp : Option (Addr × Addr)} {K : PySem.W.Frag} {ts : List T} {vs : List V} (r : RTs K tp H ts vs) (n : Nat) : RTs K tp H (List.replicate n ts).flatten (List.replicate n vs).flatten := by
  induction n with
  | zero => exact .nil
  | succ n ih => rw [List.replicate_succ, List.replicate_succ, List.flatten_cons, List.flatten_cons]; exact r.app ih

theorem strOk_app {x y : Str} (h : PyData.strOk x = true) (g : PyData.strOk y = true) : PyData.strOk (x ++ y) = true := by
  unfold PyData.strOk at *
  have e : (x ++ y).cps = x.cps ++ y.cps := rfl
  rw [e, Array.all_append, h, g]
  rfl
theorem op_bin (op : BO) : OpR X (binaryOp (toOp op)) (rT2 X.K tp (bin2 op)) := by
  intro pins s σ H x y v u QL I rx ry h
  obtain ⟨tx, ty, Q, t, bx, b_y, hf, k⟩ := h
  have int2 : ∀ {i j : Int}, tx = .int i → ty = .int j → x = .int i ∧ y = .int j := fun e1 e2 => by subst e1 e2; exact ⟨bx.int, b_y.int⟩
  cases op
  case add =>
    cases tx <;> cases ty <;> simp only [bin2] at hf
    case int.int i j =>
      obtain ⟨rfl, rfl⟩ := int2 rfl rfl
      exact op_add pins s σ H _ _ v u QL I rx ry ⟨i, j, rfl, rfl, int_val t hf k⟩
    case str.str i j =>
      obtain ⟨rfl, o1⟩ := bx.str
      obtain ⟨rfl, o2⟩ := b_y.str
      exact op_add_str pins s σ H _ _ v u QL I rx ry ⟨i, j, rfl, rfl, hf.1, same_val t (by intro _ z; cases z) (RT.str_i (strOk_app o1 o2)) hf.2 k⟩
    case tup.tup as bs =>
      obtain ⟨a, vs, rfl, sa, ra⟩ := bx.tup
      obtain ⟨b, ws, rfl, sb, rb⟩ := b_y.tup
      have la := ra.len
      have lb := rb.len
      refine op_catA pins s σ H _ _ v u QL I rx ry ⟨a, b, vs, ws, rfl, rfl, sa, sb, by rw [← la, ← lb]; exact hf.1, fun e => ?_, fun n e => ?_, fun n1 n2 => ?_⟩
      · have e1 : as = [] := List.eq_nil_of_length_eq_zero (by rw [la, e]; rfl)
        subst e1
        exact same_val t (by intro _ z; cases z) (by simp only [RT]; exact ⟨b, ws, rfl, sb, rb⟩) hf.2 k
      · have e1 : bs = [] := List.eq_nil_of_length_eq_zero (by rw [lb, e]; rfl)
        subst e1
        rw [List.append_nil] at hf
        exact same_val t (by intro _ z; cases z) (by simp only [RT]; exact ⟨a, vs, rfl, sa, ra⟩) hf.2 k
      · exact new_tup t (ra.app rb) hf.2 k
    case lst.lst as bs =>
      obtain ⟨a, vs, rfl, sa, ra⟩ := bx.lst
      obtain ⟨b, ws, rfl, sb, rb⟩ := b_y.lst
      have la := ra.len
      have lb := rb.len
      exact op_catL (f := fun _ _ _ _ => True) pins s σ H _ _ v u QL I rx ry ⟨a, b, vs, ws, rfl, rfl, sa, sb, by rw [← la, ← lb]; exact hf.1, new_lst t (ra.app rb) hf.2 k⟩
  case sub =>
    cases tx <;> cases ty <;> simp only [bin2] at hf
    case int.int i j =>
      obtain ⟨rfl, rfl⟩ := int2 rfl rfl
      exact op_sub pins s σ H _ _ v u QL I rx ry ⟨i, j, rfl, rfl, int_val t hf k⟩
  case mul =>
    cases tx <;> cases ty <;> simp only [bin2] at hf
    case int.int i j =>
      obtain ⟨rfl, rfl⟩ := int2 rfl rfl
      rcases hf.1 with c | c | c
      · exact op_mul pins s σ H _ _ v u QL I rx ry ⟨i, j, rfl, rfl, .inl c, int_val t hf.2 k⟩
      · exact op_mul pins s σ H _ _ v u QL I rx ry ⟨i, j, rfl, rfl, .inr c, int_val t hf.2 k⟩
      · exact op_mulW pins s σ H _ _ v u QL I rx ry ⟨i, j, rfl, rfl, c, int_val t hf.2 k⟩
    case tup.int as j =>
      obtain ⟨a, vs, rfl, sa, ra⟩ := bx.tup
      have la := ra.len
      obtain rfl := b_y.int
      refine op_repT pins s σ H _ _ v u QL I rx ry ⟨a, j, vs, rfl, rfl, sa, fun e => hf.1 (List.eq_nil_of_length_eq_zero (by rw [la, e]; rfl)), hf.2.1, hf.2.2.1, by rw [← la]; exact hf.2.2.2.1, ?_⟩
      exact new_tup t (rep_rts ra _) hf.2.2.2.2 k
    case lst.int as j =>
      obtain ⟨a, vs, rfl, sa, ra⟩ := bx.lst
      have la := ra.len
      obtain rfl := b_y.int
      exact op_repL pins s σ H _ _ v u QL I rx ry ⟨a, j, vs, rfl, rfl, sa, ⟨hf.1, hf.2.1⟩, by rw [← la]; exact hf.2.2.1, new_lst t (rep_rts ra _) hf.2.2.2 k⟩
  case fdiv =>
    cases tx <;> cases ty <;> simp only [bin2] at hf
    case int.int i j =>
      obtain ⟨rfl, rfl⟩ := int2 rfl rfl
      exact op_fdivW pins s σ H _ _ v u QL I rx ry ⟨i, j, rfl, rfl, hf.1, int_val t hf.2 k⟩
  case mod =>
    cases tx <;> cases ty <;> simp only [bin2] at hf
    case int.int i j =>
      obtain ⟨rfl, rfl⟩ := int2 rfl rfl
      exact op_mod pins s σ H _ _ v u QL I rx ry ⟨i, j, rfl, rfl, hf.1, int_val t hf.2 k⟩
  case pow =>
    cases tx <;> cases ty <;> simp only [bin2] at hf
    case int.int i j =>
      obtain ⟨rfl, rfl⟩ := int2 rfl rfl
      exact op_pow pins s σ H _ _ v u QL I rx ry ⟨i, j, rfl, rfl, hf.1, int_val t hf.2 k⟩
  case shl =>
    cases tx <;> cases ty <;> simp only [bin2] at hf
    case int.int i j =>
      obtain ⟨rfl, rfl⟩ := int2 rfl rfl
      exact op_shl pins s σ H _ _ v u QL I rx ry ⟨i, j, rfl, rfl, hf.1, int_val t hf.2 k⟩

/-! ### comparisons -/
theorem eq_dep {u w : T} {A : Around} (h : min u.dep w.dep ≤ 60) (hu : A.units + 100 < cLine) : A.units + min u.toD.depth w.toD.depth < cLine := by
  rw [toD_depth, toD_depth]; omega
theorem eq_at {pins : List (Addr × Obj)} {s : Shared} {σ : L2.St} {H : Hp} {x y : V} {v u : Value} {tx ty : T} {A : Around} (I : Inv X pins σ H s) (rx : RelV x v) (ry : RelV y u) (bx : RB X.K tp H tx x) (b_y : RB X.K tp H ty y) (h1 : tx.pl = true) (h2 : ty.pl = true)
    (hd : A.units + min tx.dep ty.dep < cLine) : SeqAt.EqAt A s v u (teq tx ty) := by
  obtain ⟨as, r1⟩ := Dp.reads I _ x v (bx.dp h1) rx
  obtain ⟨bs, r2⟩ := Dp.reads I _ y u (b_y.dp h2) ry
  exact SeqAt.eqAt_reads _ _ A s v u as bs r1 r2 (bx.lay h1) (b_y.lay h2) (by rw [toD_depth, toD_depth]; exact hd)
theorem op_eqT (hu : X.A.units + 100 < cLine) : OpR X (compareOp .Eq) (rT2 X.K tp (cmp2 .eq)) := by
  intro pins s σ H x y v u QL I rx ry h
  obtain ⟨tx, ty, Q, t, bx, b_y, ⟨⟨h1, h2, h3⟩, hf⟩, k⟩ := h
  obtain ⟨as, r1⟩ := Dp.reads I _ x v (bx.dp h1) rx
  obtain ⟨bs, r2⟩ := Dp.reads I _ y u (b_y.dp h2) ry
  exact SeqAt.compareEq_reads r1 r2 (bx.lay h1) (b_y.lay h2) (eq_dep h3 hu) ⟨.bl _, H, I, rfl, bl_val t hf k⟩
theorem op_neT (hu : X.A.units + 100 < cLine) : OpR X (compareOp .NotEq) (rT2 X.K tp (cmp2 .ne)) := by
  intro pins s σ H x y v u QL I rx ry h
  obtain ⟨tx, ty, Q, t, bx, b_y, ⟨⟨h1, h2, h3⟩, hf⟩, k⟩ := h
  obtain ⟨as, r1⟩ := Dp.reads I _ x v (bx.dp h1) rx
  obtain ⟨bs, r2⟩ := Dp.reads I _ y u (b_y.dp h2) ry
  exact SeqAt.compareNe_reads r1 r2 (bx.lay h1) (b_y.lay h2) (eq_dep h3 hu) ⟨.bl _, H, I, rfl, bl_val t hf k⟩

/-! ### < of trees -/
theorem lex_all : ∀ (xs ys : List T) (i : Nat) (e r : Nat → Bool) (b : Bool), tltAll xs ys = some b →
    (∀ (j : Nat) (x y : T), xs[j]? = some x → ys[j]? = some y → e (i + j) = teq x y) → (∀ (j : Nat) (x y : T), xs[j]? = some x → ys[j]? = some y → ∀ c, tlt x y = some c → r (i + j) = c) →
    Ob.lexAt e r (decide (xs.length < ys.length)) i (min xs.length ys.length) = b
  | [], [], i, e, r, b, h, _, _ => by simp only [tltAll] at h; cases h; rfl
  | [], _ :: _, i, e, r, b, h, _, _ => by
    simp only [tltAll] at h; cases h
    rw [List.length_nil, Nat.zero_min, Ob.lexAt_zero, List.length_cons]
    exact decide_eq_true (Nat.succ_pos _)
  | _ :: _, [], i, e, r, b, h, _, _ => by
    simp only [tltAll] at h; cases h
    rw [List.length_nil, Nat.min_zero, Ob.lexAt_zero]
    exact decide_eq_false (Nat.not_lt_zero _)
  | x :: xs, y :: ys, i, e, r, b, h, he, hr => by
    have e0 := he 0 x y rfl rfl
    rw [Nat.add_zero] at e0
    rw [List.length_cons, List.length_cons, Nat.succ_min_succ, Ob.lexAt_succ, e0]
    simp only [tltAll] at h
    by_cases q : teq x y = true
    · rw [if_pos q] at h ⊢
      have ih := lex_all xs ys (i + 1) e r b h (fun j x' y' a c => by have := he (j + 1) x' y' (by simpa using a) (by simpa using c); rw [← this]; congr 1; omega)
        (fun j x' y' a c d hd => by have := hr (j + 1) x' y' (by simpa using a) (by simpa using c) d hd; rw [← this]; congr 1; omega)
      rw [show decide (xs.length + 1 < ys.length + 1) = decide (xs.length < ys.length) from by simp]
      exact ih
    · rw [if_neg q] at h ⊢
      split at h
      · have := hr 0 x y rfl rfl b h
        rwa [Nat.add_zero] at this
      · cases h
theorem cmpA_at : ∀ (xs ys : List T), cmpA xs ys = true → ∀ (j : Nat) (x y : T), xs[j]? = some x → ys[j]? = some y → teq x y = true ∨ ∃ c, tlt x y = some c
  | [], _, _, j, x, y, e, _ => by simp at e
  | _ :: _, [], _, j, x, y, _, e => by simp at e
  | x :: xs, y :: ys, h, j, x', y', e1, e2 => by
    simp only [cmpA, Bool.and_eq_true, Bool.or_eq_true] at h
    cases j with
    | zero =>
      simp at e1 e2; subst e1 e2
      rcases h.1 with h | h
      · exact .inl h
      · exact .inr (Option.isSome_iff_exists.mp h)
    | succ j => exact cmpA_at xs ys h.2 j x' y' (by simpa using e1) (by simpa using e2)
/-- where < is told all pairs up to there can be compared -/
theorem tltAll_at : ∀ (xs ys : List T) (b : Bool), tltAll xs ys = some b → ∀ (j : Nat) (x y : T), xs[j]? = some x → ys[j]? = some y → teq x y = true ∨ ∃ c, tlt x y = some c
  | [], _, _, _, j, x, y, e, _ => by simp at e
  | _ :: _, [], _, _, j, x, y, _, e => by simp at e
  | x :: xs, y :: ys, b, h, j, x', y', e1, e2 => by
    simp only [tltAll] at h
    by_cases q : teq x y = true
    · rw [if_pos q] at h
      cases j with
      | zero => simp at e1 e2; subst e1 e2; exact .inl q
      | succ j => exact tltAll_at xs ys b h j x' y' (by simpa using e1) (by simpa using e2)
    · rw [if_neg q] at h
      split at h
      · rename_i hc
        cases j with
        | zero => simp at e1 e2; subst e1 e2; exact .inr ⟨b, h⟩
        | succ j => exact cmpA_at xs ys hc j x' y' (by simpa using e1) (by simpa using e2)
      · cases h
theorem dep_get {ts : List T} {i : Nat} {t : T} (h : ts[i]? = some t) : t.dep ≤ depAll ts := by
  induction ts generalizing i with
  | nil => simp at h
  | cons a r ih =>
    simp only [depAll]
    cases i with
    | zero => simp at h; subst h; exact Nat.le_max_left _ _
    | succ i => exact Nat.le_trans (ih (by simpa using h)) (Nat.le_max_right _ _)
theorem pl_get {ts : List T} {i : Nat} {t : T} (h : ts[i]? = some t) (p : plAll ts = true) : t.pl = true := by
  rw [plAll_eq, List.all_eq_true] at p
  exact p t (List.mem_of_getElem? h)
theorem rc_lt {pins : List (Addr × Obj)} {s : Shared} {σ : L2.St} {H : Hp} (I : Inv X pins σ H s) : ∀ (n : Nat) (tx ty : T) (x y : V) (v u : Value) (A : Around) (b : Bool), tx.dep ≤ n → RelV x v → RelV y u → RB X.K tp H tx x → RB X.K tp H ty y → tx.pl = true → ty.pl = true →
    A.units + min tx.dep ty.dep + 1 < cLine → tlt tx ty = some b → Ob.RcOp .Lt A s v u b := by
  intro n
  induction n with
  | zero =>
    intro tx ty x y v u A b hn rx ry bx b_y p1 p2 hd h
    cases tx <;> cases ty <;> simp only [tlt] at h <;> try (cases h; done)
    case int.int i j =>
      cases h
      obtain rfl := bx.int
      obtain rfl := b_y.int
      obtain ⟨t1, rfl⟩ := rx
      obtain ⟨t2, rfl⟩ := ry
      exact Ob.RcOp.lt_int i j t1 t2
    case str.str i j =>
      cases h
      obtain ⟨rfl, _⟩ := bx.str
      obtain ⟨rfl, _⟩ := b_y.str
      obtain ⟨t1, rfl⟩ := rx
      obtain ⟨t2, rfl⟩ := ry
      intro prog w E Q q
      exact PyProof.Rows.lt_str (by simpa using q)
    case tup.tup as bs => simp only [T.dep] at hn; omega
  | succ n ih =>
    intro tx ty x y v u A b hn rx ry bx b_y p1 p2 hd h
    cases tx <;> cases ty <;> simp only [tlt] at h <;> try (cases h; done)
    case int.int i j =>
      cases h
      obtain rfl := bx.int
      obtain rfl := b_y.int
      obtain ⟨t1, rfl⟩ := rx
      obtain ⟨t2, rfl⟩ := ry
      exact Ob.RcOp.lt_int i j t1 t2
    case str.str i j =>
      cases h
      obtain ⟨rfl, _⟩ := bx.str
      obtain ⟨rfl, _⟩ := b_y.str
      obtain ⟨t1, rfl⟩ := rx
      obtain ⟨t2, rfl⟩ := ry
      intro prog w E Q q
      exact PyProof.Rows.lt_str (by simpa using q)
    case tup.tup as bs =>
      obtain ⟨a, vs, rfl, sa, ra⟩ := bx.tup
      obtain ⟨c, ws, rfl, sb, rb⟩ := b_y.tup
      cases rx
      cases ry
      obtain ⟨its, r1, q1, _⟩ := I.tuple sa
      obtain ⟨jts, r2, q2, _⟩ := I.tuple sb
      simp only [T.pl] at p1 p2
      simp only [T.dep] at hd hn
      have la := ra.len
      have lb := rb.len
      have l1 := r1.length
      have l2 := r2.length
      have at1 : ∀ (j : Nat) (h1 : j < its.length), ∃ t z, as[j]? = some t ∧ vs[j]? = some z ∧ RT X.K tp H t z ∧ RelV z its[j] := fun j h1 => by
        have e : vs[j]? = some (vs[j]'(by omega)) := List.getElem?_eq_getElem _
        obtain ⟨t, e1, q⟩ := ra.get' e
        obtain ⟨w, e2, q'⟩ := r1.get e
        rw [List.getElem?_eq_getElem h1] at e2
        cases e2
        exact ⟨t, _, e1, e, q, q'⟩
      have at2 : ∀ (j : Nat) (h1 : j < jts.length), ∃ t z, bs[j]? = some t ∧ ws[j]? = some z ∧ RT X.K tp H t z ∧ RelV z jts[j] := fun j h1 => by
        have e : ws[j]? = some (ws[j]'(by omega)) := List.getElem?_eq_getElem _
        obtain ⟨t, e1, q⟩ := rb.get' e
        obtain ⟨w, e2, q'⟩ := r2.get e
        rw [List.getElem?_eq_getElem h1] at e2
        cases e2
        exact ⟨t, _, e1, e, q, q'⟩
      have un : A.in1.units = A.units + 1 := rfl
      have key := Ob.RcOp.tuples_lt (A := A) (s := s) (l := a) (b := c) (items := its.toArray) (items2 := jts.toArray)
        (e := fun j => match as[j]?, bs[j]? with | some t, some t' => teq t t' | _, _ => false)
        (r := fun j => match as[j]?, bs[j]? with | some t, some t' => (tlt t t').getD false | _, _ => false) q1 q2 (by omega)
        (fun j h1 h2 => by
          obtain ⟨t, z, e1, e2, q, q'⟩ := at1 j (by simpa using h1)
          obtain ⟨t', z', e1', e2', g, g'⟩ := at2 j (by simpa using h2)
          have d1 := dep_get e1
          have d2 := dep_get e1'
          simp only [e1, e1']
          exact eq_at I (by simpa using q') (by simpa using g') (.inl q) (.inl g) (pl_get e1 p1) (pl_get e1' p2) (by rw [un]; omega))
        (fun j h1 h2 hf => by
          obtain ⟨t, z, e1, e2, q, q'⟩ := at1 j (by simpa using h1)
          obtain ⟨t', z', e1', e2', g, g'⟩ := at2 j (by simpa using h2)
          have d1 := dep_get e1
          have d2 := dep_get e1'
          simp only [e1, e1'] at hf ⊢
          rcases tltAll_at as bs b h j t t' e1 e1' with e | ⟨d, e⟩
          · rw [e] at hf; cases hf
          · rw [e]
            exact ih t t' z z' _ _ A.in1 d (by omega) (by simpa using q') (by simpa using g') (.inl q) (.inl g) (pl_get e1 p1) (pl_get e1' p2) (by rw [un]; omega) e)
      have fin := lex_all as bs 0 (fun j => match as[j]?, bs[j]? with | some t, some t' => teq t t' | _, _ => false)
        (fun j => match as[j]?, bs[j]? with | some t, some t' => (tlt t t').getD false | _, _ => false) b h
        (fun j t t' e1 e2 => by rw [Nat.zero_add]; simp only [e1, e2]) (fun j t t' e1 e2 d hd => by rw [Nat.zero_add]; simp only [e1, e2, hd]; rfl)
      rw [la, l1, lb, l2] at fin
      simp only [List.size_toArray] at key
      rw [fin] at key
      exact key
theorem op_ltT' (hu : X.A.units + 100 < cLine) : OpR X (compareOp .Lt) (rT2 X.K tp (cmp2 .lt)) := by
  intro pins s σ H x y v u QL I rx ry h
  obtain ⟨tx, ty, Q, t, bx, b_y, hf, k⟩ := h
  cases tx <;> cases ty <;> simp only [cmp2, ltF] at hf
  case int.int i j =>
    obtain rfl := bx.int
    obtain rfl := b_y.int
    exact op_lt pins s σ H _ _ v u QL I rx ry ⟨i, j, rfl, rfl, bl_val t hf k⟩
  case str.str i j =>
    obtain ⟨rfl, _⟩ := bx.str
    obtain ⟨rfl, _⟩ := b_y.str
    exact op_lt_str pins s σ H _ _ v u QL I rx ry ⟨i, j, rfl, rfl, bl_val t hf k⟩
  case tup.tup as bs =>
    obtain ⟨⟨p1, p2, hd⟩, b, e, q⟩ := hf
    show wpAny _ _ (richCompare .Lt v u) _ _ _
    exact rc_lt I (T.tup as).dep _ _ x y v u X.A b (Nat.le_refl _) rx ry bx b_y p1 p2 (by omega) (by simpa only [tlt] using e) _ _ _ _ ⟨.bl b, H, I, rfl, bl_val t q k⟩
theorem op_leT : OpR X (compareOp .LtE) (rT2 X.K tp (cmp2 .le)) := by
  intro pins s σ H x y v u QL I rx ry h
  obtain ⟨tx, ty, Q, t, bx, b_y, hf, k⟩ := h
  cases tx <;> cases ty <;> simp only [cmp2, leF] at hf
  case int.int i j =>
    obtain rfl := bx.int
    obtain rfl := b_y.int
    exact op_le pins s σ H _ _ v u QL I rx ry ⟨i, j, rfl, rfl, bl_val t hf k⟩
theorem op_geT : OpR X (compareOp .GtE) (rT2 X.K tp (cmp2 .ge)) := by
  intro pins s σ H x y v u QL I rx ry h
  obtain ⟨tx, ty, Q, t, bx, b_y, hf, k⟩ := h
  cases tx <;> cases ty <;> simp only [cmp2, leF] at hf
  case int.int i j =>
    obtain rfl := bx.int
    obtain rfl := b_y.int
    exact op_ge pins s σ H _ _ v u QL I rx ry ⟨i, j, rfl, rfl, bl_val t hf k⟩
theorem op_gtT : OpR X (compareOp .Gt) (rT2 X.K tp (cmp2 .gt)) := by
  intro pins s σ H x y v u QL I rx ry h
  obtain ⟨tx, ty, Q, t, bx, b_y, ⟨i, j, rfl, rfl, hf⟩, k⟩ := h
  obtain rfl := bx.int
  obtain rfl := b_y.int
  exact op_gt pins s σ H _ _ v u QL I rx ry ⟨i, j, rfl, rfl, bl_val t hf k⟩

/-! ### is -/
theorem op_isT : OpR X (compareOp .Is) (rT2 X.K tp (cmp2 .is_)) := by
  intro pins s σ H x y v u QL I rx ry h
  obtain ⟨tx, ty, Q, t, bx, b_y, ⟨b, e, hf⟩, k⟩ := h
  have fin : QL (.bl b) H := bl_val t hf k
  have other : ∀ {d : Bool}, u = .bool d → v ≠ .bool d → b = false → wpAny (model X.prog X.w) X.A (compareOp .Is v u) (EP X pins σ QL) X.xe s := fun {d} e1 e2 e3 => by
    subst e1 e3
    cases x with
    | ref a => cases rx; exact wpAny_is_other rfl e2 ⟨.bl false, H, I, rfl, fin⟩
    | non => cases rx; exact wpAny_is_other rfl e2 ⟨.bl false, H, I, rfl, fin⟩
    | bl c => cases rx; exact wpAny_is_other rfl e2 ⟨.bl false, H, I, rfl, fin⟩
    | int c => obtain ⟨t, rfl⟩ := rx; exact wpAny_is_other rfl e2 ⟨.bl false, H, I, rfl, fin⟩
    | str c => obtain ⟨t, rfl⟩ := rx; exact wpAny_is_other rfl e2 ⟨.bl false, H, I, rfl, fin⟩
    | byt c => obtain ⟨t, rfl⟩ := rx; exact wpAny_is_other rfl e2 ⟨.bl false, H, I, rfl, fin⟩
    | flt c => obtain ⟨t, rfl⟩ := rx; exact wpAny_is_other rfl e2 ⟨.bl false, H, I, rfl, fin⟩
    | ty c => cases rx; exact wpAny_is_other rfl e2 ⟨.bl false, H, I, rfl, fin⟩
  cases ty
  case non =>
    obtain rfl := b_y.non
    refine op_isN pins s σ H _ _ v u QL I rx ry ⟨rfl, ?_⟩
    have e2 : decide (x = V.non) = b := by
      cases tx with
      | non => simp only [isT, Option.some.injEq] at e; subst e; rw [bx.non]; exact decide_eq_true rfl
      | bl c => simp only [isT, Option.some.injEq] at e; subst e; rw [bx.bl]; exact decide_eq_false (fun z => by cases z)
      | int c => simp only [isT, Option.some.injEq] at e; subst e; rw [bx.int]; exact decide_eq_false (fun z => by cases z)
      | str c => simp only [isT, Option.some.injEq] at e; subst e; rw [bx.str.1]; exact decide_eq_false (fun z => by cases z)
      | tup c => simp only [isT, Option.some.injEq] at e; subst e; obtain ⟨a, vs, rfl, _⟩ := bx.tup; exact decide_eq_false (fun z => by cases z)
      | lst c => simp only [isT, Option.some.injEq] at e; subst e; obtain ⟨a, vs, rfl, _⟩ := bx.lst; exact decide_eq_false (fun z => by cases z)
      | dic c d => have h := bx.rt (by intro _ z; cases z); simp only [RT] at h
      | st c => have h := bx.rt (by intro _ z; cases z); simp only [RT] at h
      | tape =>
        have h := bx.rt (by intro _ z; cases z)
        simp only [RT] at h
        obtain ⟨_, _, _, rfl⟩ := h
        simp only [isT, Option.some.injEq] at e; subst e; exact decide_eq_false (fun z => by cases z)
    rw [e2]; exact fin
  case bl d =>
    obtain rfl := b_y.bl
    cases ry
    cases tx with
    | bl c =>
      simp only [isT, Option.some.injEq] at e
      obtain rfl := bx.bl
      subst e
      exact op_isBl pins s σ H _ (V.bl d) v _ QL I rx rfl ⟨c, d, rfl, rfl, fin⟩
    | non => simp only [isT, Option.some.injEq] at e; obtain rfl := bx.non; cases rx; exact other rfl (fun z => by cases z) e.symm
    | int c => simp only [isT, Option.some.injEq] at e; obtain rfl := bx.int; obtain ⟨t, rfl⟩ := rx; exact other rfl (fun z => by cases z) e.symm
    | str c => simp only [isT, Option.some.injEq] at e; obtain ⟨rfl, _⟩ := bx.str; obtain ⟨t, rfl⟩ := rx; exact other rfl (fun z => by cases z) e.symm
    | tup c => simp only [isT, Option.some.injEq] at e; obtain ⟨a, vs, rfl, _⟩ := bx.tup; cases rx; exact other rfl (fun z => by cases z) e.symm
    | lst c => simp only [isT, Option.some.injEq] at e; obtain ⟨a, vs, rfl, _⟩ := bx.lst; cases rx; exact other rfl (fun z => by cases z) e.symm
    | dic c d => simp only [isT] at e; cases e
    | st c => simp only [isT] at e; cases e
    | tape => simp only [isT] at e; cases e
  all_goals (cases tx <;> simp only [isT] at e <;> cases e)
end
end TL

set_option Elab.async false
set_option linter.all false
set_option maxRecDepth 100000
set_option maxHeartbeats 4000000
/-! TLd: further operations by trees: in, places, slices, built-ins, truth. -/
namespace TL
open PySem PySem.Spec PyProof.Rows L2
section
variable {X : Cx} {tp : Option (Addr × Addr)}
theorem inT_any (x : T) (ys : List T) : ((toDs ys).any fun z => PyData.eqv z x.toD) = inT x ys := by
  unfold inT teq
  rw [toDs_map, List.any_map]
  rfl
theorem op_notIsT : OpR X (compareOp .IsNot) (rT2 X.K tp (cmp2 .isn)) := by
  intro pins s σ H x y v u QL I rx ry h
  obtain ⟨tx, ty, Q, t, bx, b_y, ⟨b, e, hf⟩, k⟩ := h
  have fin : QL (.bl (!b)) H := bl_val t hf k
  have other : ∀ {d : Bool}, u = .bool d → v ≠ .bool d → b = false → wpAny (model X.prog X.w) X.A (compareOp .IsNot v u) (EP X pins σ QL) X.xe s := fun {d} e1 e2 e3 => by
    subst e1 e3
    cases x with
    | ref a => cases rx; exact wpAny_isNot_other rfl e2 ⟨.bl true, H, I, rfl, fin⟩
    | non => cases rx; exact wpAny_isNot_other rfl e2 ⟨.bl true, H, I, rfl, fin⟩
    | bl c => cases rx; exact wpAny_isNot_other rfl e2 ⟨.bl true, H, I, rfl, fin⟩
    | int c => obtain ⟨t, rfl⟩ := rx; exact wpAny_isNot_other rfl e2 ⟨.bl true, H, I, rfl, fin⟩
    | str c => obtain ⟨t, rfl⟩ := rx; exact wpAny_isNot_other rfl e2 ⟨.bl true, H, I, rfl, fin⟩
    | byt c => obtain ⟨t, rfl⟩ := rx; exact wpAny_isNot_other rfl e2 ⟨.bl true, H, I, rfl, fin⟩
    | flt c => obtain ⟨t, rfl⟩ := rx; exact wpAny_isNot_other rfl e2 ⟨.bl true, H, I, rfl, fin⟩
    | ty c => cases rx; exact wpAny_isNot_other rfl e2 ⟨.bl true, H, I, rfl, fin⟩
  cases ty
  case non =>
    obtain rfl := b_y.non
    refine op_notN pins s σ H _ _ v u QL I rx ry ⟨rfl, ?_⟩
    have e2 : decide (x = V.non) = b := by
      cases tx with
      | non => simp only [isT, Option.some.injEq] at e; subst e; rw [bx.non]; exact decide_eq_true rfl
      | bl c => simp only [isT, Option.some.injEq] at e; subst e; rw [bx.bl]; exact decide_eq_false (fun z => by cases z)
      | int c => simp only [isT, Option.some.injEq] at e; subst e; rw [bx.int]; exact decide_eq_false (fun z => by cases z)
      | str c => simp only [isT, Option.some.injEq] at e; subst e; rw [bx.str.1]; exact decide_eq_false (fun z => by cases z)
      | tup c => simp only [isT, Option.some.injEq] at e; subst e; obtain ⟨a, vs, rfl, _⟩ := bx.tup; exact decide_eq_false (fun z => by cases z)
      | lst c => simp only [isT, Option.some.injEq] at e; subst e; obtain ⟨a, vs, rfl, _⟩ := bx.lst; exact decide_eq_false (fun z => by cases z)
      | dic c d => have h := bx.rt (by intro _ z; cases z); simp only [RT] at h
      | st c => have h := bx.rt (by intro _ z; cases z); simp only [RT] at h
      | tape =>
        have h := bx.rt (by intro _ z; cases z)
        simp only [RT] at h
        obtain ⟨_, _, _, rfl⟩ := h
        simp only [isT, Option.some.injEq] at e; subst e; exact decide_eq_false (fun z => by cases z)
    rw [e2]; exact fin
  case bl d =>
    obtain rfl := b_y.bl
    cases ry
    cases tx with
    | bl c =>
      simp only [isT, Option.some.injEq] at e
      obtain rfl := bx.bl
      subst e
      exact op_notBl pins s σ H _ (V.bl d) v _ QL I rx rfl ⟨c, d, rfl, rfl, fin⟩
    | non => simp only [isT, Option.some.injEq] at e; obtain rfl := bx.non; cases rx; exact other rfl (fun z => by cases z) e.symm
    | int c => simp only [isT, Option.some.injEq] at e; obtain rfl := bx.int; obtain ⟨t, rfl⟩ := rx; exact other rfl (fun z => by cases z) e.symm
    | str c => simp only [isT, Option.some.injEq] at e; obtain ⟨rfl, _⟩ := bx.str; obtain ⟨t, rfl⟩ := rx; exact other rfl (fun z => by cases z) e.symm
    | tup c => simp only [isT, Option.some.injEq] at e; obtain ⟨a, vs, rfl, _⟩ := bx.tup; cases rx; exact other rfl (fun z => by cases z) e.symm
    | lst c => simp only [isT, Option.some.injEq] at e; obtain ⟨a, vs, rfl, _⟩ := bx.lst; cases rx; exact other rfl (fun z => by cases z) e.symm
    | dic c d => simp only [isT] at e; cases e
    | st c => simp only [isT] at e; cases e
    | tape => simp only [isT] at e; cases e
  all_goals (cases tx <;> simp only [isT] at e <;> cases e)
theorem in_room {tx : T} {ys : List T} {A : Around} (h : min tx.dep (depAll ys + 1) ≤ 60) (hu : A.units + 100 < cLine) : A.units + 1 + min (PyData.depthAll (toDs ys)) tx.toD.depth < cLine := by
  rw [toD_depth, toDs_depth]; omega
theorem op_inT (hu : X.A.units + 100 < cLine) : OpR X (compareOp .In) (rT2 X.K tp (cmp2 .inn)) := by
  intro pins s σ H x y v u QL I rx ry h
  obtain ⟨tx, ty, Q, t, bx, b_y, hf, k⟩ := h
  cases ty <;> simp only [cmp2, inF] at hf
  case tup ys =>
    obtain ⟨⟨h1, h2, h3⟩, hf⟩ := hf
    obtain ⟨as, r1⟩ := Dp.reads I _ x v (bx.dp h1) rx
    obtain ⟨bs, r2⟩ := Dp.reads I _ y u (b_y.dp h2) ry
    have l2 := b_y.lay h2
    simp only [T.toD, PyData.canLay0] at r2 l2
    refine SeqAt.in_tuple_reads r2 r1 l2 (bx.lay h1) (in_room (by simpa only [T.dep] using h3) hu) ?_
    rw [inT_any]
    exact ⟨.bl _, H, I, rfl, bl_val t hf k⟩
  case lst ys =>
    obtain ⟨⟨h1, h2, h3⟩, hf⟩ := hf
    obtain ⟨as, r1⟩ := Dp.reads I _ x v (bx.dp h1) rx
    obtain ⟨bs, r2⟩ := Dp.reads I _ y u (b_y.dp h2) ry
    have l2 := b_y.lay h2
    simp only [T.toD, PyData.canLay0] at r2 l2
    refine SeqAt.in_list_reads r2 r1 l2 (bx.lay h1) (in_room (by simpa only [T.dep] using h3) hu) ?_
    rw [inT_any]
    exact ⟨.bl _, H, I, rfl, bl_val t hf k⟩
theorem op_ninT (hu : X.A.units + 100 < cLine) : OpR X (compareOp .NotIn) (rT2 X.K tp (cmp2 .nin)) := by
  intro pins s σ H x y v u QL I rx ry h
  obtain ⟨tx, ty, Q, t, bx, b_y, hf, k⟩ := h
  cases ty <;> simp only [cmp2, ninF] at hf
  case tup ys =>
    obtain ⟨⟨h1, h2, h3⟩, hf⟩ := hf
    obtain ⟨as, r1⟩ := Dp.reads I _ x v (bx.dp h1) rx
    obtain ⟨bs, r2⟩ := Dp.reads I _ y u (b_y.dp h2) ry
    have l2 := b_y.lay h2
    simp only [T.toD, PyData.canLay0] at r2 l2
    refine SeqAt.notIn_tuple_reads r2 r1 l2 (bx.lay h1) (in_room (by simpa only [T.dep] using h3) hu) ?_
    rw [inT_any]
    exact ⟨.bl _, H, I, rfl, bl_val t hf k⟩
  case lst ys =>
    obtain ⟨⟨h1, h2, h3⟩, hf⟩ := hf
    obtain ⟨as, r1⟩ := Dp.reads I _ x v (bx.dp h1) rx
    obtain ⟨bs, r2⟩ := Dp.reads I _ y u (b_y.dp h2) ry
    have l2 := b_y.lay h2
    simp only [T.toD, PyData.canLay0] at r2 l2
    refine SeqAt.notIn_list_reads r2 r1 l2 (bx.lay h1) (in_room (by simpa only [T.dep] using h3) hu) ?_
    rw [inT_any]
    exact ⟨.bl _, H, I, rfl, bl_val t hf k⟩
theorem op_cmp (hu : X.A.units + 100 < cLine) (op : CO) : OpR X (compareOp (toCo op)) (rT2 X.K tp (cmp2 op)) := by
  cases op
  · exact op_eqT hu
  · exact op_neT hu
  · exact op_ltT' hu
  · exact op_leT
  · exact op_gtT
  · exact op_geT
  · exact op_isT
  · exact op_notIsT
  · exact op_inT hu
  · exact op_ninT hu

/-! ### truth -/
theorem tru_of {K : PySem.W.Frag} {H : Hp} {tx : T} {x : V} {Q : Bool → Prop} (b : RB K tp H tx x) (h : tru tx Q) : ∃ k, TruV K x H k ∧ Q k := by
  cases tx <;> simp only [tru] at h
  case non => obtain rfl := b.non; exact ⟨false, rfl, h⟩
  case bl c => obtain rfl := b.bl; exact ⟨c, rfl, h⟩
  case int c => obtain rfl := b.int; exact ⟨_, rfl, h⟩
  case str c =>
    obtain ⟨rfl, _⟩ := b.str
    refine ⟨_, ⟨h.1, rfl⟩, ?_⟩
    replace h := h.2
    have e : ((c.length : Int) != 0) = decide (c.length ≠ 0) := by
      by_cases z : c.length = 0
      · simp [z]
      · simp [z]
    rw [e]; exact h
  case tup ts =>
    obtain ⟨a, vs, rfl, s, r⟩ := b.tup
    refine ⟨_, .inr (.inl ⟨vs, s, rfl⟩), ?_⟩
    have e : vs.isEmpty = ts.isEmpty := by
      have := r.len
      cases vs <;> cases ts <;> simp_all
    rw [e]; exact h
  case lst ts =>
    obtain ⟨a, vs, rfl, s, r⟩ := b.lst
    refine ⟨_, .inl ⟨vs, .inl s, rfl⟩, ?_⟩
    have e : vs.isEmpty = ts.isEmpty := by
      have := r.len
      cases vs <;> cases ts <;> simp_all
    rw [e]; exact h
/-- the truth tells one thing alone -/
theorem tru_fn {tx : T} {Q Q' : Bool → Prop} (h : tru tx Q) (g : ∀ b, Q b → Q' b) : tru tx Q' := by
  cases tx <;> simp only [tru] at h ⊢ <;> first | exact g _ h | exact ⟨h.1, g _ h.2⟩

/-! ### places and slices -/
def rIxAny (K : PySem.W.Frag) (tp : Option (Addr × Addr)) : R2 := fun x y H QL => ∃ tx ty Q, Tp tp H ∧ RB K tp H tx x ∧ RB K tp H ty y ∧ idxF tx ty Q ∧ ∀ u v H', Kp tp H H' → Tp tp H' → RT K tp H' u v → Q u → QL v H'
theorem atI_rts {K : PySem.W.Frag} {H : Hp} {ts : List T} {vs : List V} {i : Int} {t : T} (r : RTs K tp H ts vs) (e : atI ts i = some t) : ∃ v, atI vs i = some v ∧ RT K tp H t v := by
  unfold atI at e ⊢
  rw [← r.len]
  cases h : ixN ts.length i with
  | none => rw [h] at e; cases e
  | some j =>
    rw [h] at e
    exact r.get (show ts[j]? = some t from e)
theorem ix_any : IxR X (rIxAny X.K tp) := by
  intro value slice pins s σ H x y v u QL I rx ry h hs
  obtain ⟨tx, ty, Q, t, bx, b_y, hf, k⟩ := h
  cases tx <;> cases ty <;> simp only [idxF] at hf
  case tup.int ts i =>
    obtain ⟨a, vs, rfl, sa, ra⟩ := bx.tup
    obtain rfl := b_y.int
    obtain ⟨w, e, q⟩ := hf
    obtain ⟨z, e2, r⟩ := atI_rts ra e
    exact ix_tup value slice pins s σ H _ _ v u QL I rx ry ⟨a, vs, i, z, rfl, rfl, sa, e2, k _ _ _ Kp.refl t r q⟩ hs
  case lst.int ts i =>
    obtain ⟨a, vs, rfl, sa, ra⟩ := bx.lst
    obtain rfl := b_y.int
    obtain ⟨w, e, q⟩ := hf
    obtain ⟨z, e2, r⟩ := atI_rts ra e
    exact ix_list value slice pins s σ H _ _ v u QL I rx ry ⟨a, vs, i, z, rfl, rfl, .inl sa, e2, k _ _ _ Kp.refl t r q⟩ hs
  case str.int z i =>
    obtain ⟨rfl, o⟩ := bx.str
    obtain rfl := b_y.int
    obtain ⟨hz, c, e, q⟩ := hf
    refine ix_str value slice pins s σ H _ _ v u QL I rx ry ⟨z, i, c, rfl, rfl, hz, e, k _ _ _ Kp.refl t (RT.str_i ?_) q⟩ hs
    unfold PyData.strOk at o ⊢
    have m : c ∈ z.cps.toList := by
      unfold atI at e
      cases h : ixN z.cps.toList.length i with
      | none => rw [h] at e; cases e
      | some j => rw [h] at e; exact List.mem_of_getElem? (show z.cps.toList[j]? = some c from e)
    rw [Array.all_eq_true'] at o
    have := o c (by simpa using m)
    simpa using this
def rSlAny (K : PySem.W.Frag) (tp : Option (Addr × Addr)) : V → Option Int → Option Int → Hp → VK → Prop := fun x lo hi H QL => ∃ (tx : T) (Q : K1), Tp tp H ∧ RB K tp H tx x ∧
  sliF tx lo hi Q ∧ ∀ u v H', Kp tp H H' → Tp tp H' → RN K tp H H' u v → Q u → QL v H'
theorem cut_rts {K : PySem.W.Frag} {H : Hp} {ts : List T} {vs : List V} (r : RTs K tp H ts vs) (lo hi : Option Int) : RTs K tp H (cutT ts lo hi) (cutV vs lo hi) := by
  unfold cutT cutV
  rw [r.len]
  exact (r.drop _).take _
theorem sl_any : SlR X (rSlAny X.K tp) := by
  intro pins s σ H x v vl vu lo hi sl QL I rx hs pl pu h
  obtain ⟨tx, Q, t, bx, hf, k⟩ := h
  cases tx <;> simp only [sliF] at hf
  case tup ts =>
    obtain ⟨a, vs, rfl, sa, ra⟩ := bx.tup
    refine sl_tupA pins s σ H _ v vl vu lo hi sl QL I rx hs pl pu ⟨a, vs, rfl, sa, fun e => ?_, fun _ => new_tup t (cut_rts ra lo hi) hf k⟩
    have r2 := cut_rts ra lo hi
    have e2 : cutV vs lo hi = vs := by
      unfold cutV
      rw [e.1, e.2, List.drop_zero, Nat.sub_zero, List.take_length]
    rw [e2] at r2
    exact same_val t (by intro _ z; cases z) (RT.tup_i sa r2) hf k
  case lst ts =>
    obtain ⟨a, vs, rfl, sa, ra⟩ := bx.lst
    exact sl_list pins s σ H _ v vl vu lo hi sl QL I rx hs pl pu ⟨a, vs, rfl, .inl sa, new_lst t (cut_rts ra lo hi) hf k⟩

/-! ### built-ins -/
/-- of one tree -/
def rC1 (K : PySem.W.Frag) (tp : Option (Addr × Addr)) (f : T → K1 → Prop) : List V → Hp → VK → Prop := fun xs H QL => ∃ x tx Q, xs = [x] ∧ Tp tp H ∧ RB K tp H tx x ∧ f tx Q ∧ ∀ u v H', Kp tp H H' → Tp tp H' → RN K tp H H' u v → Q u → QL v H'
def rC2 (K : PySem.W.Frag) (tp : Option (Addr × Addr)) (f : T → T → K1 → Prop) : List V → Hp → VK → Prop := fun xs H QL => ∃ x y tx ty Q, xs = [x, y] ∧ Tp tp H ∧ RB K tp H tx x ∧ RB K tp H ty y ∧ f tx ty Q ∧ ∀ u v H', Kp tp H H' → Tp tp H' → RN K tp H H' u v → Q u → QL v H'
theorem c_len : CallR X (.builtin "len") (rC1 X.K tp (b1F .len)) := by
  intro pins s σ H xs us QL I r h
  obtain ⟨x, tx, Q, rfl, t, bx, hf, k⟩ := h
  cases tx <;> simp only [b1F] at hf
  case str z =>
    obtain ⟨rfl, _⟩ := bx.str
    exact call_len pins s σ H _ us QL I r ⟨_, _, rfl, ⟨hf.1, rfl⟩, int_val t hf.2 k⟩
  case tup ts =>
    obtain ⟨a, vs, rfl, sa, ra⟩ := bx.tup
    rw [ra.len] at hf
    exact call_len pins s σ H _ us QL I r ⟨_, _, rfl, .inr ⟨vs, sa, rfl⟩, int_val t hf k⟩
  case lst ts =>
    obtain ⟨a, vs, rfl, sa, ra⟩ := bx.lst
    rw [ra.len] at hf
    exact call_len pins s σ H _ us QL I r ⟨_, _, rfl, .inl ⟨vs, .inl sa, rfl⟩, int_val t hf k⟩
theorem c_abs : CallR X (.builtin "abs") (rC1 X.K tp (b1F .abs)) := by
  intro pins s σ H xs us QL I r h
  obtain ⟨x, tx, Q, rfl, t, bx, hf, k⟩ := h
  cases tx <;> simp only [b1F] at hf
  case int i =>
    obtain rfl := bx.int
    exact call_abs pins s σ H _ us QL I r ⟨i, rfl, int_val t hf k⟩
theorem c_int : CallR X (.type "int") (rC1 X.K tp (b1F .int)) := by
  intro pins s σ H xs us QL I r h
  obtain ⟨x, tx, Q, rfl, t, bx, hf, k⟩ := h
  cases tx <;> simp only [b1F] at hf
  case int i =>
    obtain rfl := bx.int
    exact call_int1 pins s σ H _ us QL I r (.inl ⟨i, rfl, int_val t hf k⟩)
  case bl i =>
    obtain rfl := bx.bl
    exact call_int1 pins s σ H _ us QL I r (.inr ⟨i, rfl, int_val t hf k⟩)
theorem c_tup : CallR X (.type "tuple") (rC1 X.K tp (b1F .tup)) := by
  intro pins s σ H xs us QL I r h
  obtain ⟨x, tx, Q, rfl, t, bx, hf, k⟩ := h
  cases tx <;> simp only [b1F] at hf
  case tup ts =>
    obtain ⟨a, vs, rfl, sa, ra⟩ := bx.tup
    exact call_tuple_of pins s σ H _ us QL I r ⟨a, vs, rfl, .inr ⟨sa, same_val t (by intro _ z; cases z) (RT.tup_i sa ra) hf k⟩⟩
  case lst ts =>
    obtain ⟨a, vs, rfl, sa, ra⟩ := bx.lst
    exact call_tuple_of pins s σ H _ us QL I r ⟨a, vs, rfl, .inl ⟨.inl sa, new_tup t ra hf k⟩⟩
theorem c_lst : CallR X (.type "list") (rC1 X.K tp (b1F .lst)) := by
  intro pins s σ H xs us QL I r h
  obtain ⟨x, tx, Q, rfl, t, bx, hf, k⟩ := h
  cases tx <;> simp only [b1F] at hf
  case tup ts =>
    obtain ⟨a, vs, rfl, sa, ra⟩ := bx.tup
    exact call_list_of pins s σ H _ us QL I r ⟨a, vs, rfl, .inr sa, new_lst t ra hf k⟩
  case lst ts =>
    obtain ⟨a, vs, rfl, sa, ra⟩ := bx.lst
    exact call_list_of pins s σ H _ us QL I r ⟨a, vs, rfl, .inl (.inl sa), new_lst t ra hf k⟩
theorem sum_tup {pins : List (Addr × Obj)} {s : Shared} {σ : L2.St} {H : Hp} {a : Addr} {ns : List Int} {Q : VK} (I : Inv X pins σ H s) (hc : X.calm = true) (h : SqT X.K H a (ns.map V.int)) (q : Q (.int ns.sum) H) :
    wpAny (model X.prog X.w) X.A (call (.builtin "sum") [.ref a]) (EP X pins σ Q) X.xe s := by
  obtain ⟨its, r, ht, _⟩ := I.tuple h
  have hi : IntsAre its ns := intsAre_of r
  obtain ⟨xs, hx⟩ := hi.allInts.items
  have ht' : s.heap.IsTuple a its.toArray := ht
  have hn : numsOf its.toArray.toList = ns := hi.numsOf
  rw [hx] at ht' hn
  rw [nums_intItems] at hn
  refine PySem.W.ktm_sumG (I.ok.hd hc) ht' fun h' tk t' hk => ⟨.int ns.sum, H, I.kept (h' := h') (t' := tk) hk, ⟨t', ?_⟩, q⟩
  rw [preSum_eq, List.take_of_length_le (by simp), hn]
theorem c_sum (hc : X.calm = true) : CallR X (.builtin "sum") (rC1 X.K tp (b1F .sum)) := by
  intro pins s σ H xs us QL I r h
  obtain ⟨x, tx, Q, rfl, t, bx, hf, k⟩ := h
  cases tx <;> simp only [b1F] at hf
  case lst ts =>
    obtain ⟨a, vs, rfl, sa, ra⟩ := bx.lst
    obtain ⟨ns, e, q⟩ := hf
    obtain rfl := ra.ints e
    exact cr_sum hc pins s σ H _ us QL I r ⟨a, ns, rfl, .inl sa, int_val t q k⟩
  case tup ts =>
    obtain ⟨a, vs, rfl, sa, ra⟩ := bx.tup
    obtain ⟨ns, e, q⟩ := hf
    obtain rfl := ra.ints e
    obtain ⟨u, rfl, ru⟩ := vals1 r
    cases ru
    exact sum_tup I hc sa (int_val t q k)
theorem c_all (hc : X.calm = true) : CallR X (.builtin "all") (rC1 X.K tp (b1F .all)) := by
  intro pins s σ H xs us QL I r h
  obtain ⟨x, tx, Q, rfl, t, bx, hf, k⟩ := h
  cases tx <;> simp only [b1F] at hf
  case lst ts =>
    obtain ⟨a, vs, rfl, sa, ra⟩ := bx.lst
    obtain ⟨ns, e, q⟩ := hf
    obtain rfl := ra.bls e
    exact cr_all hc pins s σ H _ us QL I r ⟨a, ns, rfl, .inl sa, bl_val t q k⟩
theorem c_any (hc : X.calm = true) : CallR X (.builtin "any") (rC1 X.K tp (b1F .any)) := by
  intro pins s σ H xs us QL I r h
  obtain ⟨x, tx, Q, rfl, t, bx, hf, k⟩ := h
  cases tx <;> simp only [b1F] at hf
  case lst ts =>
    obtain ⟨a, vs, rfl, sa, ra⟩ := bx.lst
    obtain ⟨ns, e, q⟩ := hf
    obtain rfl := ra.bls e
    exact cr_any hc pins s σ H _ us QL I r ⟨a, ns, rfl, .inl sa, bl_val t q k⟩
theorem c_max (hc : X.calm = true) : CallR X (.builtin "max") (rC1 X.K tp (b1F .max)) := by
  intro pins s σ H xs us QL I r h
  obtain ⟨x, tx, Q, rfl, t, bx, hf, k⟩ := h
  cases tx <;> simp only [b1F] at hf
  case lst ts =>
    obtain ⟨a, vs, rfl, sa, ra⟩ := bx.lst
    obtain ⟨ns, e, h0, q⟩ := hf
    obtain rfl := ra.ints e
    exact cr_max hc pins s σ H _ us QL I r ⟨a, ns, rfl, .inl sa, h0, fun m h1 h2 => int_val t (q m ⟨h1, h2⟩) k⟩
theorem c_min (hc : X.calm = true) : CallR X (.builtin "min") (rC1 X.K tp (b1F .min)) := by
  intro pins s σ H xs us QL I r h
  obtain ⟨x, tx, Q, rfl, t, bx, hf, k⟩ := h
  cases tx <;> simp only [b1F] at hf
  case lst ts =>
    obtain ⟨a, vs, rfl, sa, ra⟩ := bx.lst
    obtain ⟨ns, e, h0, q⟩ := hf
    obtain rfl := ra.ints e
    exact cr_min hc pins s σ H _ us QL I r ⟨a, ns, rfl, .inl sa, h0, fun m h1 h2 => int_val t (q m ⟨h1, h2⟩) k⟩
theorem c_sorted : CallR X (.builtin "sorted") (rC1 X.K tp (b1F .sorted)) := by
  intro pins s σ H xs us QL I r h
  obtain ⟨x, tx, Q, rfl, t, bx, hf, k⟩ := h
  cases tx <;> simp only [b1F] at hf
  case lst ts =>
    obtain ⟨a, vs, rfl, sa, ra⟩ := bx.lst
    obtain ⟨ns, e, q⟩ := hf
    obtain rfl := ra.ints e
    exact L2.cr_sortedI pins s σ H _ us QL I r ⟨a, ns, rfl, .inl sa, fun ms p h1 h2 hp => new_lst t (RTs.of_ints ms) (q ms ⟨h1, h2⟩) k p hp⟩
theorem c_max2 (hc : X.calm = true) : CallR X (.builtin "max") (rC2 X.K tp (b2F .max)) := by
  intro pins s σ H xs us QL I r h
  obtain ⟨x, y, tx, ty, Q, rfl, t, bx, b_y, hf, k⟩ := h
  cases tx <;> cases ty <;> simp only [b2F] at hf
  case int.int i j =>
    obtain rfl := bx.int
    obtain rfl := b_y.int
    exact call_max2 hc pins s σ H _ us QL I r ⟨i, j, rfl, int_val t hf k⟩
theorem c_min2 (hc : X.calm = true) : CallR X (.builtin "min") (rC2 X.K tp (b2F .min)) := by
  intro pins s σ H xs us QL I r h
  obtain ⟨x, y, tx, ty, Q, rfl, t, bx, b_y, hf, k⟩ := h
  cases tx <;> cases ty <;> simp only [b2F] at hf
  case int.int i j =>
    obtain rfl := bx.int
    obtain rfl := b_y.int
    exact call_min2 hc pins s σ H _ us QL I r ⟨i, j, rfl, int_val t hf k⟩
theorem c_set : CallR X (.type "set") (rC1 X.K tp (b1F .set)) := by
  intro pins s σ H xs us QL I r h
  obtain ⟨x, tx, Q, rfl, t, bx, hf, k⟩ := h
  cases tx <;> simp only [b1F] at hf
theorem strOk_of (s : String) : PyData.strOk (Str.ofString s) = true := by
  rw [Str.ofString_eq_toList]
  unfold PyData.strOk
  simp only [List.all_toArray, List.all_map, List.all_eq_true, Function.comp, decide_eq_true_eq]
  intro c _
  have := c.valid
  have h2 : c.toNat = c.val.toNat := rfl
  rcases this with h | h
  · have : c.val.toNat < 0xd800 := h
    omega
  · have : c.val.toNat < 0x110000 := h.2
    omega
theorem c_str : CallR X (.type "str") (rC1 X.K tp (b1F .str)) := by
  intro pins s σ H xs us QL I r h
  obtain ⟨x, tx, Q, rfl, t, bx, hf, k⟩ := h
  cases tx <;> simp only [b1F] at hf
  case int i =>
    obtain rfl := bx.int
    exact call_str_int pins s σ H _ us QL I r ⟨i, rfl, hf.1, same_val t (by intro _ z; cases z) (RT.str_i (strOk_of _)) hf.2 k⟩
theorem c_dict : CallR X (.type "dict") (rC1 X.K tp (b1F .dict)) := by
  intro pins s σ H xs us QL I r h
  obtain ⟨x, tx, Q, rfl, t, bx, hf, k⟩ := h
  cases tx <;> simp only [b1F] at hf
def tyN : Ty → String
  | .int => "int" | .bool => "bool" | .str => "str" | .tup => "tuple" | .lst => "list" | .dic => "dict"
theorem c_isi (ty : Ty) : CallR X (.builtin "isinstance") (fun xs H QL => ∃ (x : V) (tx : T) (Q : K1), xs = [x, .ty (tyN ty)] ∧ Tp tp H ∧ RB X.K tp H tx x ∧ (∃ b, isiF ty tx = some b ∧ Q (.bl b)) ∧ ∀ u v H', Kp tp H H' → Tp tp H' → RN X.K tp H H' u v → Q u → QL v H') := by
  intro pins s σ H xs us QL I r h
  obtain ⟨x, tx, Q, rfl, t, bx, ⟨b, e, q⟩, k⟩ := h
  have fin : QL (.bl b) H := bl_val t q k
  have go : ∀ (n : String), TyX X.K H x (.type n) → kitB n (tyN ty) = some b → wpAny (model X.prog X.w) X.A (call (.builtin "isinstance") us) (EP X pins σ QL) X.xe s := fun n h1 h2 =>
    call_isi pins s σ H _ us QL I r ⟨x, .ty (tyN ty), .type n, .type (tyN ty), b, rfl, ClsV.ty _, h1, kit_ty h2, fin⟩
  cases tx with
  | non => obtain rfl := bx.non; refine go "NoneType" (.base .non) ?_; cases ty <;> simp only [isiF, Option.some.injEq] at e <;> subst e <;> decide +kernel
  | bl c => obtain rfl := bx.bl; refine go "bool" (.base (.bl c)) ?_; cases ty <;> simp only [isiF, Option.some.injEq] at e <;> subst e <;> decide +kernel
  | int c => obtain rfl := bx.int; refine go "int" (.base (.int c)) ?_; cases ty <;> simp only [isiF, Option.some.injEq] at e <;> subst e <;> decide +kernel
  | str c => obtain ⟨rfl, _⟩ := bx.str; refine go "str" (.base (.str c)) ?_; cases ty <;> simp only [isiF, Option.some.injEq] at e <;> subst e <;> decide +kernel
  | tup c =>
    obtain ⟨a, vs, rfl, sa, _⟩ := bx.tup
    refine go "tuple" ?_ ?_
    · rcases sa with (sa | ⟨o, sa⟩) | ⟨o, its, n, h1, h2, _⟩
      · exact .base (.tup sa)
      · exact .fTuple sa
      · exact .kTuple h1 h2
    · cases ty <;> simp only [isiF, Option.some.injEq] at e <;> subst e <;> decide +kernel
  | lst c =>
    obtain ⟨a, vs, rfl, sa, _⟩ := bx.lst
    refine go "list" ?_ ?_
    · rcases sa with sa | ⟨o, sa⟩
      · exact .base (.lst sa)
      · exact .base (.frz sa)
    · cases ty <;> simp only [isiF, Option.some.injEq] at e <;> subst e <;> decide +kernel
  | dic c d => cases ty <;> simp only [isiF] at e <;> cases e
  | st c => cases ty <;> simp only [isiF] at e <;> cases e
  | tape => cases ty <;> simp only [isiF] at e <;> cases e
end
end TL

set_option Elab.async false
set_option linter.all false
set_option maxRecDepth 100000
set_option maxHeartbeats 4000000
/-! TLe: slots and trees, readings, the looks. -/
namespace TL
open PySem PySem.Spec PyProof.Rows L2

/-- the slots hold the trees; H0: the heap at the entry -/
structure RS (K : PySem.W.Frag) (tp : Option (Addr × Addr)) (H0 : Hp) (σt : TS) (σ : L2.St) (H : Hp) : Prop where
  len : σ.length = σt.length
  val : ∀ (i : Nat) (t : T), σt[i]? = some (.val t) → ∃ v, σ[i]? = some (some v) ∧ RT K tp H t v
  own : ∀ (i : Nat) (t : T), σt[i]? = some (.own t) → ∃ p, σ[i]? = some (some (.ref p)) ∧ RO K tp H t p ∧ H0 p = none
  inj : ∀ (i j : Nat) (t u : T) (p : Addr), σt[i]? = some (.own t) → σt[j]? = some (.own u) → σ[i]? = some (some (.ref p)) → σ[j]? = some (some (.ref p)) → i = j
  kp : Kp tp H0 H
  tp0 : Tp tp H0
  tpo : Tp tp H

section
variable {K : PySem.W.Frag} {tp : Option (Addr × Addr)} {H0 H H1 : Hp} {σt : TS} {σ : L2.St}
theorem RS.mono (r : RS K tp H0 σt σ H) (k : Kp tp H H1) (t : Tp tp H1) : RS K tp H0 σt σ H1 where
  len := r.len
  val := fun i t' e => let ⟨v, e1, h⟩ := r.val i t' e; ⟨v, e1, RT.kp k r.tpo _ _ h⟩
  own := fun i t' e => let ⟨p, e1, h, n⟩ := r.own i t' e; ⟨p, e1, h.kp k r.tpo, n⟩
  inj := r.inj
  kp := r.kp.trans k
  tp0 := r.tp0
  tpo := t
theorem RS.setV (r : RS K tp H0 σt σ H) {i : Nat} {t : T} {v : V} (h : RT K tp H t v) : RS K tp H0 (σt.set i (.val t)) (σ.set i (some v)) H where
  len := by simp [r.len]
  val := fun j t' e => by
    rw [List.getElem?_set] at e ⊢
    by_cases hj : i = j
    · rw [if_pos hj] at e ⊢
      split at e
      · rename_i hl; rw [if_pos (by rw [r.len]; exact hl)]; cases e; exact ⟨v, rfl, h⟩
      · cases e
    · rw [if_neg hj] at e ⊢; exact r.val j t' e
  own := fun j t' e => by
    rw [List.getElem?_set] at e ⊢
    by_cases hj : i = j
    · rw [if_pos hj] at e; split at e <;> cases e
    · rw [if_neg hj] at e ⊢; exact r.own j t' e
  inj := fun a b t' u p e1 e2 e3 e4 => by
    rw [List.getElem?_set] at e1 e2 e3 e4
    by_cases ha : i = a
    · rw [if_pos ha] at e1; split at e1 <;> cases e1
    · by_cases hb : i = b
      · rw [if_pos hb] at e2; split at e2 <;> cases e2
      · rw [if_neg ha] at e1 e3; rw [if_neg hb] at e2 e4; exact r.inj a b t' u p e1 e2 e3 e4
  kp := r.kp
  tp0 := r.tp0
  tpo := r.tpo
/-- an owned thing comes to slot i: a new one, or one that leaves its slot -/
theorem RS.setO (r : RS K tp H0 σt σ H) {i : Nat} {t : T} {p : Addr} (h : RO K tp H t p) (n : H0 p = none) (ap : ∀ (j : Nat) (u : T), j ≠ i → σt[j]? = some (.own u) → σ[j]? ≠ some (some (.ref p))) : RS K tp H0 (σt.set i (.own t)) (σ.set i (some (.ref p))) H where
  len := by simp [r.len]
  val := fun j t' e => by
    rw [List.getElem?_set] at e ⊢
    by_cases hj : i = j
    · rw [if_pos hj] at e; split at e <;> cases e
    · rw [if_neg hj] at e ⊢; exact r.val j t' e
  own := fun j t' e => by
    rw [List.getElem?_set] at e ⊢
    by_cases hj : i = j
    · rw [if_pos hj] at e ⊢
      split at e
      · rename_i hl; rw [if_pos (by rw [r.len]; exact hl)]; cases e; exact ⟨p, rfl, h, n⟩
      · cases e
    · rw [if_neg hj] at e ⊢; exact r.own j t' e
  inj := fun a b t' u q e1 e2 e3 e4 => by
    rw [List.getElem?_set] at e1 e2 e3 e4
    by_cases ha : i = a
    · by_cases hb : i = b
      · exact ha.symm.trans hb
      · rw [if_pos ha] at e1 e3; rw [if_neg hb] at e2 e4
        split at e3
        · cases e3; exact absurd e4 (ap b u (fun z => hb z.symm) e2)
        · cases e3
    · by_cases hb : i = b
      · rw [if_neg ha] at e1 e3; rw [if_pos hb] at e2 e4
        split at e4
        · cases e4; exact absurd e3 (ap a t' (fun z => ha z.symm) e1)
        · cases e4
      · rw [if_neg ha] at e1 e3; rw [if_neg hb] at e2 e4; exact r.inj a b t' u q e1 e2 e3 e4
  kp := r.kp
  tp0 := r.tp0
  tpo := r.tpo
/-- a slot is forgotten -/
theorem RS.setN (r : RS K tp H0 σt σ H) {i : Nat} {o : Option V} : RS K tp H0 (σt.set i .no) (σ.set i o) H where
  len := by simp [r.len]
  val := fun j t' e => by
    rw [List.getElem?_set] at e ⊢
    by_cases hj : i = j
    · rw [if_pos hj] at e; split at e <;> cases e
    · rw [if_neg hj] at e ⊢; exact r.val j t' e
  own := fun j t' e => by
    rw [List.getElem?_set] at e ⊢
    by_cases hj : i = j
    · rw [if_pos hj] at e; split at e <;> cases e
    · rw [if_neg hj] at e ⊢; exact r.own j t' e
  inj := fun a b t' u p e1 e2 e3 e4 => by
    rw [List.getElem?_set] at e1 e2 e3 e4
    by_cases ha : i = a
    · rw [if_pos ha] at e1; split at e1 <;> cases e1
    · by_cases hb : i = b
      · rw [if_pos hb] at e2; split at e2 <;> cases e2
      · rw [if_neg ha] at e1 e3; rw [if_neg hb] at e2 e4; exact r.inj a b t' u p e1 e2 e3 e4
  kp := r.kp
  tp0 := r.tp0
  tpo := r.tpo
/-- .. the value staying where it is -/
theorem RS.forget (r : RS K tp H0 σt σ H) {i : Nat} : RS K tp H0 (σt.set i .no) σ H where
  len := by simp [r.len]
  val := fun j t' e => by
    rw [List.getElem?_set] at e
    by_cases hj : i = j
    · rw [if_pos hj] at e; split at e <;> cases e
    · rw [if_neg hj] at e; exact r.val j t' e
  own := fun j t' e => by
    rw [List.getElem?_set] at e
    by_cases hj : i = j
    · rw [if_pos hj] at e; split at e <;> cases e
    · rw [if_neg hj] at e; exact r.own j t' e
  inj := fun a b t' u p e1 e2 e3 e4 => by
    rw [List.getElem?_set] at e1 e2
    by_cases ha : i = a
    · rw [if_pos ha] at e1; split at e1 <;> cases e1
    · by_cases hb : i = b
      · rw [if_pos hb] at e2; split at e2 <;> cases e2
      · rw [if_neg ha] at e1; rw [if_neg hb] at e2; exact r.inj a b t' u p e1 e2 e3 e4
  kp := r.kp
  tp0 := r.tp0
  tpo := r.tpo
theorem RS.wipe (r : RS K tp H0 σt σ H) : ∀ vs : List Nat, RS K tp H0 (wipeT σt vs) (L2.wipe σ vs) H
  | [] => r
  | v :: vs => by unfold wipeT L2.wipe; exact (RS.wipe r vs).setN
/-- an owned list is rewritten -/
theorem RS.put (r : RS K tp H0 σt σ H) {i : Nat} {t : T} {p : Addr} {ts : List T} {vs : List V} (e : σt[i]? = some (.own t)) (e1 : σ[i]? = some (some (.ref p))) (h : RO K tp H t p) (n : H0 p = none) (r2 : RTs K tp H ts vs) :
    RS K tp H0 (σt.set i (.own (.lst ts))) σ (upd H p (.lst vs)) := by
  obtain ⟨off, ts0, vs0, et, eh, _⟩ := h
  have st : Stn H (upd H p (.lst vs)) := Stn.upd eh
  have hi : i < σt.length := (List.getElem?_eq_some_iff.mp e).1
  refine ⟨by simp [r.len], fun j t' ej => ?_, fun j t' ej => ?_, fun a b t' u q a1 a2 a3 a4 => ?_, fun a o ea of => ?_, r.tp0, r.tpo.updOff off⟩
  · rw [List.getElem?_set] at ej
    by_cases hj : i = j
    · rw [if_pos hj] at ej; split at ej <;> cases ej
    · rw [if_neg hj] at ej
      obtain ⟨v, ev, h⟩ := r.val j t' ej
      exact ⟨v, ev, RT.stn st _ _ h⟩
  · rw [List.getElem?_set] at ej
    by_cases hj : i = j
    · rw [if_pos hj, if_pos hi] at ej
      cases ej
      subst hj
      exact ⟨p, e1, ⟨off, ts, vs, rfl, upd_same, RTs.stn st _ _ r2⟩, n⟩
    · rw [if_neg hj] at ej
      obtain ⟨q, eq, ⟨oq, ts1, vs1, e2, e3, r3⟩, nq⟩ := r.own j t' ej
      refine ⟨q, eq, ⟨oq, ts1, vs1, e2, ?_, RTs.stn st _ _ r3⟩, nq⟩
      rw [upd_ne fun z => by subst z; exact hj (r.inj i j t t' q e ej e1 eq)]
      exact e3
  · rw [List.getElem?_set] at a1 a2
    have w : ∀ (a : Nat) (t' : T), (if i = a then if i < σt.length then some (Sl.own (.lst ts)) else none else σt[a]?) = some (.own t') → ∃ u, σt[a]? = some (.own u) := fun a t' h => by
      by_cases ha : i = a
      · exact ⟨t, ha ▸ e⟩
      · rw [if_neg ha] at h; exact ⟨t', h⟩
    obtain ⟨u1, b1⟩ := w a t' a1
    obtain ⟨u2, b2⟩ := w b u a2
    exact r.inj a b u1 u2 q b1 b2 a3 a4
  · rw [upd_ne fun z => by subst z; rw [n] at ea; cases ea]
    exact r.kp a o ea of
/-- an owned thing is locked for good -/
theorem RS.lock (r : RS K tp H0 σt σ H) {i : Nat} {p : Addr} {ts : List T} {vs : List V} {od : Obj} (e : σt[i]? = some (.own (.lst ts))) (e1 : σ[i]? = some (some (.ref p))) (off : OffT tp p) (eh : H p = some (.lst vs)) (n : H0 p = none) (r2 : RTs K tp H ts vs) :
    RS K tp H0 (σt.set i (.val (.lst ts))) σ (upd H p (.frz od (.lst vs))) := by
  have st : Stn H (upd H p (.frz od (.lst vs))) := Stn.upd eh
  have hi : i < σt.length := (List.getElem?_eq_some_iff.mp e).1
  refine ⟨by simp [r.len], fun j t' ej => ?_, fun j t' ej => ?_, fun a b t' u q a1 a2 a3 a4 => ?_, fun a o ea of => ?_, r.tp0, r.tpo.updOff off⟩
  · rw [List.getElem?_set] at ej
    by_cases hj : i = j
    · rw [if_pos hj, if_pos hi] at ej
      cases ej
      subst hj
      exact ⟨_, e1, RT.lst_i ⟨od, upd_same⟩ (RTs.stn st _ _ r2)⟩
    · rw [if_neg hj] at ej
      obtain ⟨v, ev, h⟩ := r.val j t' ej
      exact ⟨v, ev, RT.stn st _ _ h⟩
  · rw [List.getElem?_set] at ej
    by_cases hj : i = j
    · rw [if_pos hj, if_pos hi] at ej; cases ej
    · rw [if_neg hj] at ej
      obtain ⟨q, eq, ⟨oq, ts1, vs1, e2, e3, r3⟩, nq⟩ := r.own j t' ej
      refine ⟨q, eq, ⟨oq, ts1, vs1, e2, ?_, RTs.stn st _ _ r3⟩, nq⟩
      rw [upd_ne fun z => by subst z; exact hj (r.inj i j _ t' q e ej e1 eq)]
      exact e3
  · rw [List.getElem?_set] at a1 a2
    by_cases ha : i = a
    · rw [if_pos ha, if_pos hi] at a1; cases a1
    · by_cases hb : i = b
      · rw [if_pos hb, if_pos hi] at a2; cases a2
      · rw [if_neg ha] at a1; rw [if_neg hb] at a2; exact r.inj a b t' u q a1 a2 a3 a4
  · rw [upd_ne fun z => by subst z; rw [n] at ea; cases ea]
    exact r.kp a o ea of
end
theorem slV_get : ∀ {σ : TS} {i : Nat} {Q : K1}, slV σ i Q → ∃ t, σ[i]? = some (.val t) ∧ Q t
  | [], _, _, h => by simp only [slV] at h
  | .val t :: r, 0, Q, h => by simp only [slV] at h; exact ⟨t, rfl, h⟩
  | .no :: r, 0, Q, h => by simp only [slV] at h
  | .own _ :: r, 0, Q, h => by simp only [slV] at h
  | a :: r, i + 1, Q, h => by
    have h' : slV r i Q := by cases a <;> simpa only [slV] using h
    simpa using slV_get h'
theorem slO_get : ∀ {σ : TS} {i : Nat} {Q : K1}, slO σ i Q → ∃ t, σ[i]? = some (.own t) ∧ Q t
  | [], _, _, h => by simp only [slO] at h
  | .own t :: r, 0, Q, h => by simp only [slO] at h; exact ⟨t, rfl, h⟩
  | .no :: r, 0, Q, h => by simp only [slO] at h
  | .val _ :: r, 0, Q, h => by simp only [slO] at h
  | a :: r, i + 1, Q, h => by
    have h' : slO r i Q := by cases a <;> simpa only [slO] using h
    simpa using slO_get h'

/-! ### names -/
structure GN where
  fn : List (Str × Bool)
  cs : List Str
  bl : List Str
def visB (sc : Scope) (x : Str) : Bool := match sc.names.lookup x with | some .local => true | some .cell => true | some .free => true | _ => false
def gloB (sc : Scope) (x : Str) : Bool := match sc.names.lookup x with | some .globalImplicit => true | _ => false
def locB (sc : Scope) (x : Str) : Bool := match sc.names.lookup x with | some .local => true | some .cell => true | _ => false
def dbgB (x : Str) : Bool := !(x == ("__debug__" : Str)) && !(x == ("__classdict__" : Str)) && !(x == ("__name__" : Str))
theorem visB_vis {sc : Scope} {x : Str} (h : visB sc x = true) : Vis sc x := by
  unfold visB at h
  split at h <;> first | exact .inl (by assumption) | exact .inr (.inl (by assumption)) | exact .inr (.inr (by assumption)) | cases h
theorem gloB_glo {sc : Scope} {x : Str} (h : gloB sc x = true) : sc.names.lookup x = some .globalImplicit := by
  unfold gloB at h
  split at h
  · assumption
  · cases h
theorem dbgB_1 {x : Str} (h : dbgB x = true) : (x == ("__debug__" : Str)) = false := by
  unfold dbgB at h
  simp only [Bool.and_eq_true, Bool.not_eq_true'] at h
  exact h.1.1
theorem dbgB_2 {x : Str} (h : dbgB x = true) : (x == ("__classdict__" : Str)) = false := by
  unfold dbgB at h
  simp only [Bool.and_eq_true, Bool.not_eq_true'] at h
  exact h.1.2
theorem dbgB_3 {x : Str} (h : dbgB x = true) : x ≠ "__name__" := by
  unfold dbgB at h
  simp only [Bool.and_eq_true, Bool.not_eq_true'] at h
  intro e
  rw [e] at h
  exact absurd h.2 (by decide)

/-- a def as trees -/
def lift (K : PySem.W.Frag) (fr : Bool) (sp : List T → (T → Prop) → Prop) : Sp := fun vs H QL _ => ∃ tp ts Q, Tp tp H ∧ RTs K tp H ts vs ∧ sp ts Q ∧ ∀ u v H', Kp tp H H' → Tp tp H' → (if fr = true then RN K tp H H' u v else RT K tp H' u v) → Q u → QL v H'
/-- the def named x keeps its promise, at level k at most -/
def FnFact (P : Program) (w : World) (K : PySem.W.Frag) (mg : Str → Option Value) (base : Heap) (k : Nat) (sp : List T → (T → Prop) → Prop) (x : Str) (fr : Bool) : Prop :=
  ∃ f fd ps, mg x = some (.ref f) ∧ PySem.W.keepIn K (.ref f) = true ∧ Binds K fd ps [] ∧ FnOk P w K mg base CX0 k f fd ps (lift K fr sp)
structure CxOk (G : Gm) (Γ : GN) (k : Nat) (X : Cx) : Prop where
  calm : X.calm = true
  nd : X.N.Nodup
  bl : ∀ x ∈ Γ.bl, X.mg x = none
  cs : ∀ (i : Nat) x, Γ.cs[i]? = some x → ∃ v u, X.mg x = some u ∧ RelV v u ∧ ∀ tp H, RT X.K tp H (G.cs i) v
  fn : ∀ (i : Nat) x fr, Γ.fn[i]? = some (x, fr) → FnFact X.prog X.w X.K X.mg X.base k (G.fn i) x fr
  rm : Room k X.A
theorem CxOk.blk {G : Gm} {Γ : GN} {k : Nat} {X : Cx} (c : CxOk G Γ k X) (s : Shared) (H : Hp) (scope : Scope) (ce : Env) (fp : List Addr) : CxOk G Γ k (X.blk s H scope ce fp) :=
  ⟨c.calm, c.nd, c.bl, c.cs, c.fn, c.rm⟩
theorem CxOk.un {G : Gm} {Γ : GN} {k : Nat} {X : Cx} (c : CxOk G Γ k X) : X.A.units + 100 < cLine := by have := c.rm.un; omega
theorem CxOk.hu {G : Gm} {Γ : GN} {k : Nat} {X : Cx} (c : CxOk G Γ k X) : X.A.units + 1 < cLine := by have := c.rm.un; omega

def isBor : E → Bool
  | .bor _ => true
  | _ => false
def isNew (Γ : GN) : E → Bool
  | .bin .add _ _ => true
  | .bin .mul _ _ => true
  | .lst _ => true
  | .comp _ _ _ _ _ => true
  | .comp2 _ _ _ _ _ _ _ _ => true
  | .b1 .lst _ => true
  | .b1 .sorted _ => true
  | .st1 .sorted _ => true
  | .rngS _ _ _ => true
  | .sli _ _ _ => true
  | .rev _ => true
  | .call f _ => match Γ.fn[f]? with | some (_, fr) => fr | none => false
  | .ite _ a b => isNew Γ a && isNew Γ b
  | _ => false

/-! ### readings -/
section
variable (K : PySem.W.Frag) (G : Gm) (tp : Option (Addr × Addr))
/-- what comes of an expression: readable now, a tree, or new -/
def tOf (e : E) : TE := fun σ H QL => ∃ H0 σt Q, RS K tp H0 σt σ H ∧ wE G e σt Q ∧ ∀ u v H', Kp tp H H' → Tp tp H' → RB K tp H' u v → (isBor e = false → RT K tp H' u v) → Q u → QL v H'
def nOf (e : E) : TE := fun σ H QL => ∃ H0 σt Q, RS K tp H0 σt σ H ∧ wE G e σt Q ∧ ∀ u v H', Kp tp H H' → Tp tp H' → RN K tp H H' u v → Q u → QL v H'
def ttOf (e : E) : TT := fun σ H QL => ∃ H0 σt Q, RS K tp H0 σt σ H ∧ tst G e σt Q ∧ ∀ b H', Kp tp H H' → Tp tp H' → Q b → QL b H'
def aOf (es : List E) : TA := fun σ H QL => ∃ H0 σt Q, RS K tp H0 σt σ H ∧ wEs G es σt Q ∧ ∀ us vs H', Kp tp H H' → Tp tp H' → RTs K tp H' us vs → Q us → QL vs H'
end
theorem PE.imp {X : Cx} {e : Expr} {t t' : TE} (h : PE X e t) (i : ∀ σ H Q, t' σ H Q → t σ H Q) : PE X e t' := ⟨fun pins s σ H Q I q => h.run pins s σ H Q I (i σ H Q q)⟩
theorem PT.imp {X : Cx} {e : Expr} {t t' : TT} (h : PT X e t) (i : ∀ σ H Q, t' σ H Q → t σ H Q) : PT X e t' := ⟨fun pins s σ H Q I q => h.run pins s σ H Q I (i σ H Q q)⟩
theorem PA.imp {X : Cx} {e : List Expr} {t t' : TA} (h : PA X e t) (i : ∀ σ H Q, t' σ H Q → t σ H Q) : PA X e t' := ⟨fun pos pins s σ H Q I q => h.run pos pins s σ H Q I (i σ H Q q)⟩
theorem PI.imp {X : Cx} {tg e : Expr} {t t' : TI} (h : PI X tg e t) (i : ∀ σ H Q, t' σ H Q → t σ H Q) : PI X tg e t' := ⟨fun pins s σ H Q I q => h.run pins s σ H Q I (i σ H Q q)⟩
/-- what is new is locked, and so a tree -/
theorem pe_frz {X : Cx} {G : Gm} {tp : Option (Addr × Addr)} {e : E} {ex : Expr} (h : PE X ex (nOf X.K G tp e)) : PE X ex (tOf X.K G tp e) := by
  refine ⟨fun pins s σ H QL I q => ?_⟩
  obtain ⟨H0, σt, Q, r, w, k⟩ := q
  refine thn (h.run pins s σ H (fun v H1 => ∃ u, Kp tp H H1 ∧ Tp tp H1 ∧ RN X.K tp H H1 u v ∧ Q u) I ⟨H0, σt, Q, r, w, fun u v H' k1 t1 n q => ⟨u, k1, t1, n, q⟩⟩) fun z s1 ⟨v, H1, I1, rv, u, k1, t1, n, q⟩ => ?_
  rcases n with ⟨p, ts, vs, rfl, rfl, h0, hp, r2⟩ | ⟨_, h2⟩
  · obtain ⟨od, I2⟩ := I1.lock hp trivial
    have off : OffT tp p := r.tpo.offN h0
    have rt : RT X.K tp (upd H1 p (.frz od (.lst vs))) (.lst ts) (.ref p) := RT.lst_i ⟨od, upd_same⟩ (RTs.stn (Stn.upd hp) _ _ r2)
    refine ⟨.ref p, _, I2, rv, k _ _ _ (fun a o ea of => ?_) (t1.updOff off) (.inl rt) (fun _ => rt) q⟩
    rw [upd_ne fun z => by subst z; rw [h0] at ea; cases ea]
    exact k1 a o ea of
  · exact ⟨v, H1, I1, rv, k _ _ _ k1 t1 (.inl h2) (fun _ => h2) q⟩
end TL

set_option Elab.async false
set_option linter.all false
set_option maxRecDepth 100000
set_option maxHeartbeats 8000000
/-! TLf: the look at a text, and that it tells the truth: expressions. -/
namespace TL
open PySem PySem.Spec PyProof.Rows L2

def opOk : BO → Operator → Bool
  | .add, .Add => true | .sub, .Sub => true | .mul, .Mult => true | .fdiv, .FloorDiv => true | .mod, .Mod => true | .pow, .Pow => true | .shl, .LShift => true
  | _, _ => false
theorem opOk_eq {a : BO} {o : Operator} (h : opOk a o = true) : o = toOp a := by cases a <;> cases o <;> first | rfl | cases h
def coOk : CO → CmpOp → Bool
  | .eq, .Eq => true | .ne, .NotEq => true | .lt, .Lt => true | .le, .LtE => true | .gt, .Gt => true | .ge, .GtE => true
  | .is_, .Is => true | .isn, .IsNot => true | .inn, .In => true | .nin, .NotIn => true
  | _, _ => false
theorem coOk_eq {a : CO} {o : CmpOp} (h : coOk a o = true) : o = toCo a := by cases a <;> cases o <;> first | rfl | cases h
def b1N : B1 → Str
  | .len => "len" | .abs => "abs" | .sum => "sum" | .all => "all" | .any => "any" | .max => "max" | .min => "min"
  | .tup => "tuple" | .lst => "list" | .sorted => "sorted" | .set => "set" | .int => "int" | .str => "str" | .dict => "dict"
def b2N : B2 → Str
  | .max => "max" | .min => "min"
def isSet : Expr → Bool
  | .Set _ _ _ => true
  | _ => false
/-- an index that is no slice, no tuple -/
def plainIx : Expr → Bool
  | .Name _ _ => true | .Constant _ _ _ => true | .BinOp _ _ _ _ => true | .UnaryOp _ _ _ => true | .Call _ _ _ _ => true | .Subscript _ _ _ => true | .IfExp _ _ _ _ => true | .Compare _ _ _ _ => true | .BoolOp _ _ _ => true
  | .Attribute _ _ _ => true
  | _ => false
mutual
def chkTg (N : List Str) (sc : Scope) : Tg → Expr → Bool
  | .nm i, ex => (match ex with | .Name x _ => decide (N[i]? = some x) && locB sc x | _ => false)
  | .tp ts, ex => (match ex with | .Tuple es _ _ => chkTgs N sc ts es | _ => false)
def chkTgs (N : List Str) (sc : Scope) : List Tg → List Expr → Bool
  | [], es => es.isEmpty
  | t :: ts, es => (match es with | e :: r => chkTg N sc t e && chkTgs N sc ts r | [] => false)
end
def isZ : E → Bool
  | .int i => decide (i = 0)
  | _ => false
theorem isZ_eq : ∀ {a : E}, isZ a = true → a = .int 0
  | .int i, h => by simp only [isZ, decide_eq_true_eq] at h; rw [h]
def isTru : E → Bool
  | .bl b => b
  | _ => false
theorem isTru_eq : ∀ {a : E}, isTru a = true → a = .bl true
  | .bl b, h => by simp only [isTru] at h; rw [h]
/-- a test without a choice -/
def tstOk : E → Bool
  | .ite _ _ _ => false
  | .and a b => tstOk a && tstOk b
  | .or a b => tstOk a && tstOk b
  | .not a => tstOk a
  | _ => true
mutual
/-- the slots of a target -/
def tgS : Tg → List Nat
  | .nm i => [i]
  | .tp ts => tgsS ts
def tgsS : List Tg → List Nat
  | [] => []
  | t :: ts => tgS t ++ tgsS ts
end
def ownOf (N : List Str) (vs : List Nat) : List (Str × Nat) := vs.map fun i => (N.getD i "", i)
mutual
def chkE (Γ : GN) (N : List Str) : E → Scope → Expr → Bool
  | .var i, sc, ex => (match ex with | .Name x _ => decide (N[i]? = some x) && visB sc x && dbgB x | _ => false)
  | .bor i, sc, ex => (match ex with | .Name x _ => decide (N[i]? = some x) && visB sc x && dbgB x | _ => false)
  | .int i, _, ex => (match ex with | .Constant (.int j) _ _ => decide (i = j) | _ => false)
  | .str x, _, ex => (match ex with | .Constant (.str y) _ _ => decide (x = y) && PyData.strOk x | _ => false)
  | .bl b, _, ex => (match ex with | .Constant (.bool c) _ _ => decide (b = c) | _ => false)
  | .non, _, ex => (match ex with | .Constant .none _ _ => true | _ => false)
  | .glo i, sc, ex => (match ex with | .Name x _ => decide (Γ.cs[i]? = some x) && gloB sc x && dbgB x | _ => false)
  | .bin op a b, sc, ex => (match ex with | .BinOp l o r _ => opOk op o && chkE Γ N a sc l && chkE Γ N b sc r | _ => false)
  | .neg a, sc, ex => (match ex with | .UnaryOp .USub x _ => chkE Γ N a sc x | _ => false)
  | .not a, sc, ex => (match ex with | .UnaryOp .Not x _ => chkE Γ N a sc x | _ => false)
  | .cmp op a b, sc, ex => (match ex with | .Compare l [o] [r] _ => coOk op o && chkE Γ N a sc l && chkE Γ N b sc r && !isSet r | _ => false)
  | .chain o p a b c, sc, ex => (match ex with | .Compare l [o', p'] [r, r2] _ => coOk o o' && coOk p p' && chkE Γ N a sc l && chkE Γ N b sc r && chkE Γ N c sc r2 && !isSet r && !isSet r2 | _ => false)
  | .and a b, sc, ex => (match ex with
      | .BoolOp .And (x :: y :: rest) pos => chkE Γ N a sc x && !isBor a && !isBor b && (match rest with | [] => chkE Γ N b sc y | z :: zs => chkE Γ N b sc (.BoolOp .And (y :: z :: zs) pos))
      | _ => false)
  | .or a b, sc, ex => (match ex with
      | .BoolOp .Or (x :: y :: rest) pos => chkE Γ N a sc x && !isBor a && !isBor b && (match rest with | [] => chkE Γ N b sc y | z :: zs => chkE Γ N b sc (.BoolOp .Or (y :: z :: zs) pos))
      | _ => false)
  | .ite c a b, sc, ex => (match ex with | .IfExp t x y _ => chkE Γ N c sc t && tstOk c && chkE Γ N a sc x && chkE Γ N b sc y && !isBor a && !isBor b | _ => false)
  | .tup es, sc, ex => (match ex with | .Tuple xs _ _ => chkEs Γ N es sc xs | _ => false)
  | .lst es, sc, ex => (match ex with | .List xs _ => chkEs Γ N es sc xs | _ => false)
  | .call f es, sc, ex => (match ex with
      | .Call (.Name x _) xs [] _ => (match Γ.fn[f]? with | some (y, _) => decide (x = y) | none => false) && gloB sc x && dbgB x && chkEs Γ N es sc xs
      | _ => false)
  | .b1 f a, sc, ex => (match ex with
      | .Call (.Name x _) [e] [] _ => decide (x = b1N f) && Γ.bl.contains x && gloB sc x && chkE Γ N a sc e
      | _ => false)
  | .dead, _, ex => (match ex with | .Starred _ _ => false | .ListComp _ _ _ _ => false | .SetComp _ _ _ _ => false | .DictComp _ _ _ _ _ => false | _ => true)
  | .rev a, sc, ex => (match ex with
      | .Subscript v (.Slice none none (some (.UnaryOp .USub (.Constant (.int j) _ _) _)) _) _ => decide (j = 1) && chkE Γ N a sc v
      | _ => false)
  | .rngS l a b, sc, ex => (match ex with
      | .Call (.Name x _) [.Call (.Name y _) [e] [] _] [] _ => decide (x = (if l = true then b1N .lst else b1N .tup)) && decide (y = "range") && Γ.bl.contains x && Γ.bl.contains y && gloB sc x && gloB sc y && isZ a && chkE Γ N b sc e
      | .Call (.Name x _) [.Call (.Name y _) [e, e2] [] _] [] _ => decide (x = (if l = true then b1N .lst else b1N .tup)) && decide (y = "range") && Γ.bl.contains x && Γ.bl.contains y && gloB sc x && gloB sc y && chkE Γ N a sc e && chkE Γ N b sc e2
      | _ => false)
  | .st1 f a, sc, ex => (match ex with
      | .Call (.Name x _) [.Call (.Name y _) [e] [] _] [] _ => (decide (f = .sorted) || decide (f = .len)) && decide (x = b1N f) && decide (y = "set") && Γ.bl.contains x && Γ.bl.contains y && gloB sc x && gloB sc y && chkE Γ N a sc e
      | _ => false)
  | .b2 f a b, sc, ex => (match ex with
      | .Call (.Name x _) [e, e2] [] _ => decide (x = b2N f) && Γ.bl.contains x && gloB sc x && chkE Γ N a sc e && chkE Γ N b sc e2
      | _ => false)
  | .isi t a, sc, ex => (match ex with
      | .Call (.Name x _) [e, .Name y _] [] _ => decide (x = "isinstance") && decide (y = (tyN t : Str)) && Γ.bl.contains x && Γ.bl.contains y && gloB sc x && gloB sc y && chkE Γ N a sc e
      | _ => false)
  | .idx a i, sc, ex => (match ex with | .Subscript v s _ => plainIx s && chkE Γ N a sc v && chkE Γ N i sc s | _ => false)
  | .sli a lo hi, sc, ex => (match ex with
      | .Subscript v (.Slice l h none _) _ => chkE Γ N a sc v && (match l with | none => isNon lo | some l => !isNon lo && chkE Γ N lo sc l) && (match h with | none => isNon hi | some h => !isNon hi && chkE Γ N hi sc h)
      | _ => false)
  | .comp elt tg src cond vs, sc, ex => (match ex with
      | .ListComp e [⟨t, it, ifs, 0⟩] scope _ => blkC N sc scope (ownOf N vs) && chkTg N scope tg t && (tgS tg).all vs.contains && (chkR Γ N src sc it || chkE Γ N src sc it) && (match ifs with | [] => isTru cond | [c] => chkE Γ N cond (relS scope sc) c && tstOk cond | _ => false) && chkE Γ N elt (relS scope sc) e && !isBor elt && !isSet it
      | _ => false)
  | _, _, _ => false
def chkEs (Γ : GN) (N : List Str) : List E → Scope → List Expr → Bool
  | [], _, xs => xs.isEmpty
  | e :: es, sc, xs => (match xs with | x :: r => chkE Γ N e sc x && !isBor e && chkEs Γ N es sc r | [] => false)
def chkR (Γ : GN) (N : List Str) : E → Scope → Expr → Bool
  | .rng a b, sc, ex => (match ex with
      | .Call (.Name x _) [e] [] _ => decide (x = "range") && Γ.bl.contains x && gloB sc x && isZ a && chkE Γ N b sc e
      | .Call (.Name x _) [e, e2] [] _ => decide (x = "range") && Γ.bl.contains x && gloB sc x && chkE Γ N a sc e && chkE Γ N b sc e2
      | _ => false)
  | _, _, _ => false
end
end TL

set_option Elab.async false
set_option linter.all false
set_option maxRecDepth 100000
set_option maxHeartbeats 8000000
/-! TLg: targets, walks. -/
namespace TL
open PySem PySem.Spec PyProof.Rows L2

/-! ### targets -/
/-- slots but those at l are as they were -/
def Ch (l : List Nat) (σ σ' : L2.St) : Prop := σ'.length = σ.length ∧ ∀ i, i ∉ l → σ'[i]? = σ[i]?
theorem Ch.trans {l m : List Nat} {a b c : L2.St} (h : Ch l a b) (g : Ch m b c) : Ch (l ++ m) a c :=
  ⟨g.1.trans h.1, fun i hi => by rw [List.mem_append, not_or] at hi; exact (g.2 i hi.2).trans (h.2 i hi.1)⟩
section
variable (K : PySem.W.Frag) (tp : Option (Addr × Addr))
def gOf (t : Tg) : TG := fun v σ H QL => ∃ H0 σt u Q, RS K tp H0 σt σ H ∧ RT K tp H u v ∧ asg t u σt Q ∧ ∀ σt' σ', RS K tp H0 σt' σ' H → Ch (tgS t) σ σ' → Q σt' → QL σ' H
def gsOf (ts : List Tg) : TGs := fun vs σ H QL => ∃ H0 σt us Q, RS K tp H0 σt σ H ∧ RTs K tp H us vs ∧ asgs ts us σt Q ∧ ∀ σt' σ', RS K tp H0 σt' σ' H → Ch (tgsS ts) σ σ' → Q σt' → QL σ' H
end
theorem PG.imp {X : Cx} {tg : Expr} {t t' : TG} (h : PG X tg t) (i : ∀ v σ H Q, t' v σ H Q → t v σ H Q) : PG X tg t' := ⟨fun pins s σ H v u Q I r q => h.run pins s σ H v u Q I r (i v σ H Q q)⟩
theorem PGs.imp {X : Cx} {tg : List Expr} {t t' : TGs} (h : PGs X tg t) (i : ∀ v σ H Q, t' v σ H Q → t v σ H Q) : PGs X tg t' := ⟨fun pins s σ H v u Q I r q => h.run pins s σ H v u Q I r (i v σ H Q q)⟩
/-- what a target's look leans on: local names are local there, cells are its own -/
structure TgOk (X : Cx) (sc : Scope) : Prop where
  loc : ∀ x, sc.names.lookup x = some .local → X.env.scope.names.lookup x = some .local
  cell : ∀ x, sc.names.lookup x = some .cell → X.env.scope.names.lookup x = some .cell ∧ X.fn x = true
theorem assignEach_len (es : List Expr) (env : Env) : (assignEach es env).length = es.length := by
  induction es with
  | nil => rfl
  | cons e r ih => cases e <;> simp only [assignEach, List.length_cons, ih]
theorem chkTg_star {N : List Str} {sc : Scope} {t : Tg} {e : Expr} (h : chkTg N sc t e = true) : (∃ x p, e = .Name x p) ∨ ∃ es k p, e = .Tuple es k p := by
  cases t with
  | nm i =>
    simp only [chkTg] at h
    split at h
    · exact .inl ⟨_, _, rfl⟩
    · cases h
  | tp ts =>
    simp only [chkTg] at h
    split at h
    · exact .inr ⟨_, _, _, rfl⟩
    · cases h
theorem chkTgs_star {N : List Str} {sc : Scope} : ∀ {ts : List Tg} {es : List Expr} (env : Env), chkTgs N sc ts es = true → (assignEach es env).findIdx? (·.1) = none ∧ ts.length = es.length
  | [], es, env, h => by
    simp only [chkTgs] at h
    cases es with
    | nil => exact ⟨rfl, rfl⟩
    | cons => cases h
  | t :: ts, es, env, h => by
    cases es with
    | nil => simp only [chkTgs] at h; cases h
    | cons e r =>
      simp only [chkTgs, Bool.and_eq_true] at h
      obtain ⟨h1, h2⟩ := chkTgs_star env h.2
      refine ⟨?_, by simp [h2]⟩
      rcases chkTg_star h.1 with ⟨x, p, rfl⟩ | ⟨es', k, p, rfl⟩
      · simp only [assignEach, List.findIdx?_cons, h1]; rfl
      · simp only [assignEach, List.findIdx?_cons, h1]; rfl
mutual
theorem asg_ex : ∀ (t : Tg) (u : T) (σ : TS) (k : TS → Prop), asg t u σ k → ∃ σ', k σ'
  | .nm i, u, σ, k, h => by simp only [asg] at h; exact ⟨_, h⟩
  | .tp ts, u, σ, k, h => by
    cases u <;> simp only [asg] at h
    exact (asgs_ex ts _ σ k h).2
theorem asgs_ex : ∀ (ts : List Tg) (us : List T) (σ : TS) (k : TS → Prop), asgs ts us σ k → ts.length = us.length ∧ ∃ σ', k σ'
  | [], us, σ, k, h => by
    cases us with
    | nil => simp only [asgs] at h; exact ⟨rfl, _, h⟩
    | cons => simp only [asgs] at h
  | t :: ts, us, σ, k, h => by
    cases us with
    | nil => simp only [asgs] at h
    | cons u us =>
      simp only [asgs] at h
      obtain ⟨σ1, h1⟩ := asg_ex t u σ _ h
      obtain ⟨l, h2⟩ := asgs_ex ts us σ1 k h1
      exact ⟨by simp [l], h2⟩
end
mutual
theorem snd_tg {X : Cx} {sc : Scope} {tp : Option (Addr × Addr)} (hc : X.calm = true) (nd : X.N.Nodup) (ok : TgOk X sc) : ∀ (t : Tg) (e : Expr), chkTg X.N sc t e = true → PG X e (gOf X.K tp t)
  | .nm i, e, h => by
    simp only [chkTg] at h
    split at h
    · rename_i x p
      simp only [Bool.and_eq_true, decide_eq_true_eq] at h
      have hx : Loc X.env.scope x ∧ (X.fn x = true ∨ X.env.scope.names.lookup x = some .local) := by
        have h2 := h.2
        unfold locB at h2
        split at h2
        · rename_i e; exact ⟨.inl (ok.loc x e), .inr (ok.loc x e)⟩
        · rename_i e; exact ⟨.inr (ok.cell x e).1, .inl (ok.cell x e).2⟩
        · cases h2
      refine PG.imp (pg_name nd h.1 hx.1 hx.2) fun v σ H QL q => ?_
      obtain ⟨H0, σt, u, Q, r, rt, w, k⟩ := q
      simp only [asg] at w
      refine k _ _ (r.setV rt) ⟨by simp, fun j hj => ?_⟩ w
      rw [List.getElem?_set_ne fun z => hj (by simp [tgS, z])]
    · cases h
  | .tp ts, e, h => by
    simp only [chkTg] at h
    split at h
    · rename_i es kk p
      obtain ⟨h1, h2⟩ := chkTgs_star X.env h
      refine PG.imp (pg_tup (n := ts.length) hc (snd_tgs (tp := tp) hc nd ok ts es h) (by rw [assignEach_len, h2]) h1) fun v σ H QL q => ?_
      obtain ⟨H0, σt, u, Q, r, rt, w, k⟩ := q
      cases u <;> simp only [asg] at w
      rename_i us
      simp only [RT] at rt
      obtain ⟨a, vs, rfl, sq, rs⟩ := rt
      exact ⟨a, vs, rfl, sq, by rw [← rs.len, (asgs_ex ts us σt Q w).1], H0, σt, us, Q, r, rs, w, fun σt' σ' r' ch q => k σt' σ' r' (by simpa only [tgS] using ch) q⟩
    · cases h
theorem snd_tgs {X : Cx} {sc : Scope} {tp : Option (Addr × Addr)} (hc : X.calm = true) (nd : X.N.Nodup) (ok : TgOk X sc) : ∀ (ts : List Tg) (es : List Expr), chkTgs X.N sc ts es = true → PGs X es (gsOf X.K tp ts)
  | [], es, h => by
    simp only [chkTgs] at h
    cases es with
    | cons => cases h
    | nil =>
      refine PGs.imp pgs_nil fun v σ H QL q => ?_
      obtain ⟨H0, σt, us, Q, r, rs, w, k⟩ := q
      cases us with
      | cons => simp only [asgs] at w
      | nil =>
        simp only [asgs] at w
        simp only [RTs] at rs
        exact ⟨rs, k _ _ r ⟨rfl, fun _ _ => rfl⟩ w⟩
  | t :: ts, es, h => by
    cases es with
    | nil => simp only [chkTgs] at h; cases h
    | cons e r =>
      simp only [chkTgs, Bool.and_eq_true] at h
      refine PGs.imp (pgs_cons (snd_tg (tp := tp) hc nd ok t e h.1) (snd_tgs (tp := tp) hc nd ok ts r h.2) (by rcases chkTg_star h.1 with ⟨x, p, rfl⟩ | ⟨es', k, p, rfl⟩ <;> rfl)) fun v σ H QL q => ?_
      obtain ⟨H0, σt, us, Q, r, rs, w, k⟩ := q
      cases us with
      | nil => simp only [asgs] at w
      | cons u us =>
        simp only [asgs] at w
        simp only [RTs] at rs
        obtain ⟨v1, vr, rfl, h1, h2⟩ := rs
        exact ⟨v1, vr, rfl, H0, σt, u, _, r, h1, w, fun σt' σ' r' ch q' => ⟨H0, σt', us, Q, r', h2, q', fun σt2 σ2 r2 ch2 q2 => k σt2 σ2 r2 (by simpa only [tgsS] using ch.trans ch2) q2⟩⟩
end

/-! ### what is walked -/
/-- the iterator gives the items where P holds of the heap -/
structure WalkT (K : PySem.W.Frag) (tp : Option (Addr × Addr)) (J : It) (items : List T) (P : Hp → Prop) : Prop where
  few : items.length ≤ sizeLine
  stops : ∀ H, P H → Tp tp H → J.stop items.length H
  goes : ∀ i H, P H → Tp tp H → i < items.length → J.go i H
  yields : ∀ i H x H', P H → Tp tp H → i < items.length → J.yld i H x H' → Kp tp H H' ∧ Tp tp H' ∧ ∃ t, items[i]? = some t ∧ RT K tp H' t x
theorem WalkT.sub {K : PySem.W.Frag} {tp : Option (Addr × Addr)} {J : It} {items : List T} {P P' : Hp → Prop} (w : WalkT K tp J items P) (h : ∀ H, P' H → P H) : WalkT K tp J items P' :=
  ⟨w.few, fun H p => w.stops H (h H p), fun i H p => w.goes i H (h H p), fun i H x H' p => w.yields i H x H' (h H p)⟩
section
variable (K : PySem.W.Frag) (G : Gm) (tp : Option (Addr × Addr))
def jOf (src : E) : TI := fun σ H R => ∃ H0 σt Q, RS K tp H0 σt σ H ∧ wE G src σt (fun z => seqOf z Q) ∧ ∀ items J H', Kp tp H H' → Tp tp H' → WalkT K tp J items (Kp tp H') → (isBor src = false → WalkT K tp J items (Stn H')) → Q items → R J H'
end
section
variable {X : Cx} {tp : Option (Addr × Addr)} {tg : Expr}
theorem walk_lst {K : PySem.W.Frag} {H : Hp} {a : Addr} {ts : List T} {vs : List V} {P : Hp → Prop} (h : ∀ H1, P H1 → Rd H1 a (.lst vs)) (r : ∀ H1, P H1 → Tp tp H1 → RTs K tp H1 ts vs) (l : ts.length = vs.length) (few : vs.length ≤ sizeLine) : WalkT K tp (Itl K a) ts P where
  few := by rw [l]; exact few
  stops := fun H1 p t1 => ⟨vs, .inl (h H1 p), by rw [l]; exact Nat.le_refl _⟩
  goes := fun i H1 p t1 hi => ⟨vs, vs[i]'(by rw [← l]; exact hi), .inl (h H1 p), List.getElem?_eq_getElem _⟩
  yields := fun i H1 x H' p t1 hi y => by
    obtain ⟨rfl, y⟩ := y
    obtain ⟨u, e1, h1⟩ := (r _ p t1).get' (y vs (.inl (h _ p)))
    exact ⟨Kp.refl, t1, u, e1, h1⟩
theorem walk_tup' {K : PySem.W.Frag} {H : Hp} {a : Addr} {ts : List T} {vs : List V} (h : SqT K H a vs) (r : RTs K tp H ts vs) (few : vs.length ≤ sizeLine) : WalkT K tp (Itt K a) ts (Stn H) where
  few := by rw [r.len]; exact few
  stops := fun H1 k t1 => ⟨vs, SqT.stn k h, by rw [r.len]; exact Nat.le_refl _⟩
  goes := fun i H1 k t1 hi => ⟨vs, vs[i]'(by rw [← r.len]; exact hi), SqT.stn k h, List.getElem?_eq_getElem _⟩
  yields := fun i H1 x H' k t1 hi y => by
    obtain ⟨rfl, y⟩ := y
    obtain ⟨u, e1, h1⟩ := r.get' (y vs (SqT.stn k h))
    exact ⟨Kp.refl, t1, u, e1, RT.stn k _ _ h1⟩
theorem walk_rng {K : PySem.W.Frag} {lo : Int} {n : Nat} {P : Hp → Prop} (few : n ≤ sizeLine) : WalkT K tp (Itr lo n) (rngL lo n) P where
  few := by unfold rngL; simpa using few
  stops := fun H1 k t1 => by unfold rngL; simp only [List.length_map, List.length_range]; exact Nat.le_refl n
  goes := fun i H1 k t1 hi => by
    unfold rngL at hi
    have hi' : i < n := by simpa using hi
    exact hi'
  yields := fun i H1 x H' k t1 hi y => by
    obtain ⟨rfl, rfl⟩ := y
    unfold rngL at hi ⊢
    simp only [List.length_map, List.length_range] at hi
    exact ⟨Kp.refl, t1, .int (lo + i), by simp [hi], RT.int_i _⟩
theorem walk_str' {K : PySem.W.Frag} {z : Str} {P : Hp → Prop} (few : z.length ≤ sizeLine) (ok : PyData.strOk z = true) : WalkT K tp (Its z) (z.cps.toList.map fun c => T.str ⟨#[c]⟩) P where
  few := by
    have f : z.cps.size ≤ sizeLine := few
    simpa using f
  stops := fun H1 k t1 => by simp only [List.length_map, Array.length_toList]; exact Nat.le_refl _
  goes := fun i H1 k t1 hi => by
    have hi' : i < z.cps.size := by simpa using hi
    exact hi'
  yields := fun i H1 x H' k t1 hi y => by
    obtain ⟨rfl, c, e, rfl⟩ := y
    refine ⟨Kp.refl, t1, .str ⟨#[c]⟩, by simp [e], RT.str_i ?_⟩
    unfold PyData.strOk at ok ⊢
    rw [Array.all_eq_true'] at ok
    have := ok c (Array.mem_of_getElem? e)
    simpa using this
/-- any expression of a tuple, a list, a text, walked -/
theorem pi_any {G : Gm} {e : E} {ex : Expr} (h : PE X ex (tOf X.K G tp e)) : PI X tg ex (jOf X.K G tp e) := by
  refine ⟨fun pins s σ H R I q => ?_⟩
  obtain ⟨H0, σt, Q, r, w, k⟩ := q
  refine thn (h.run pins s σ H (fun v H1 => ∃ u, Kp tp H H1 ∧ Tp tp H1 ∧ RB X.K tp H1 u v ∧ (isBor e = false → RT X.K tp H1 u v) ∧ seqOf u Q) I ⟨H0, σt, _, r, w, fun u v H' k1 t1 b b2 q => ⟨u, k1, t1, b, b2, q⟩⟩) fun v s1 ⟨x, H1, I1, r1, u, k1, t1, b, b2, q⟩ => ?_
  cases u <;> simp only [seqOf] at q
  case tup ts =>
    obtain ⟨a, vs, rfl, sq, rs⟩ := b.tup
    cases r1
    obtain ⟨its, rv, p, hz⟩ := I1.tuple sq
    refine wpAny_pyIter_tuple (show s1.heap.IsTuple a its.toArray from p) ?_
    exact pi_one (tk := s1.toks) I1 _ (turn_tuple a _) ⟨_, Heap.get?_push_size _ rfl, rfl, rfl⟩ (k ts _ H1 k1 t1 ((walk_tup' sq rs hz).sub fun H' k' => k'.stn t1) (fun _ => walk_tup' sq rs hz) q)
  case lst ts =>
    obtain ⟨a, vs, rfl, sq, rs, wk, ws⟩ : ∃ a vs, x = .ref a ∧ Rd H1 a (.lst vs) ∧ RTs X.K tp H1 ts vs ∧ (∀ H2, Kp tp H1 H2 → Rd H2 a (.lst vs)) ∧ (isBor e = false → ∀ H2, Stn H1 H2 → Rd H2 a (.lst vs)) := by
      rcases b with b | ⟨p, e, o, ts', vs, e1, e2, rr⟩
      · simp only [RT] at b
        obtain ⟨a, vs, e, ⟨o, f⟩, rr⟩ := b
        exact ⟨a, vs, e, .inr ⟨o, f⟩, rr, fun H2 k2 => .inr ⟨o, (k2.stn t1) _ _ f fun _ z => by cases z⟩, fun _ H2 k2 => .inr ⟨o, k2 _ _ f fun _ z => by cases z⟩⟩
      · cases e1
        refine ⟨p, vs, e, .inl e2, rr, fun H2 k2 => .inl (k2 _ _ e2 o), fun hb => ?_⟩
        have h2 := b2 hb
        simp only [RT] at h2
        obtain ⟨a', vs', e', ⟨o', f⟩, _⟩ := h2
        rw [e] at e'; cases e'; rw [f] at e2; cases e2
    cases r1
    obtain ⟨its, rv, p, hz⟩ := I1.list (.inl sq)
    refine wpAny_pyIter_list p.isList ?_
    exact pi_one (tk := s1.toks) I1 _ (turn_list a _) ⟨_, Heap.get?_push_size _ rfl, rfl, rfl⟩ (k ts _ H1 k1 t1 (walk_lst (H := H1) wk (fun H2 k2 _ => RTs.kp k2 t1 _ _ rs) rs.len hz) (fun hb => walk_lst (H := H1) (ws hb) (fun H2 k2 _ => RTs.stn k2 _ _ rs) rs.len hz) q)
  case str z =>
    obtain ⟨rfl, ok⟩ := b.str
    obtain ⟨t, rfl⟩ := r1
    cases ha : z.cps.all (· < 128)
    · exact wpAny_pyIter_wide ha (pi_one (tk := s1.toks) I1 _ (turn_str _ z t "str_iterator" (.inr rfl)) ⟨_, Heap.get?_push_size _ rfl, rfl, rfl⟩ (k _ _ H1 k1 t1 (walk_str' q.1 ok) (fun _ => walk_str' q.1 ok) q.2))
    · exact wpAny_pyIter_ascii ha (pi_one (tk := s1.toks) I1 _ (turn_str _ z t "str_ascii_iterator" (.inl rfl)) ⟨_, Heap.get?_push_size _ rfl, rfl, rfl⟩ (k _ _ H1 k1 t1 (walk_str' q.1 ok) (fun _ => walk_str' q.1 ok) q.2))
end
end TL

set_option Elab.async false
set_option linter.all false
set_option maxRecDepth 100000
set_option maxHeartbeats 8000000
/-! TLh: comprehensions. -/
namespace TL
open PySem PySem.Spec PyProof.Rows L2

theorem wipe_get {σ : L2.St} : ∀ {vs : List Nat} {i : Nat}, (L2.wipe σ vs)[i]? = if i ∈ vs then (if i < σ.length then some none else none) else σ[i]?
  | [], i => by simp [L2.wipe]
  | v :: vs, i => by
    unfold L2.wipe
    rw [List.getElem?_set, wipe_length, wipe_get (vs := vs)]
    by_cases h : v = i
    · subst h; simp
    · rw [if_neg h]
      have : (i ∈ v :: vs) ↔ i ∈ vs := by
        rw [List.mem_cons]
        exact ⟨fun z => z.resolve_left fun e => h e.symm, .inr⟩
      simp only [this]
theorem wipe_ch {σ σ' : L2.St} {l vs : List Nat} (h : Ch l (L2.wipe σ vs) σ') (sub : ∀ i ∈ l, i ∈ vs) : L2.wipe σ' vs = L2.wipe σ vs := by
  obtain ⟨h1, h2⟩ := h
  rw [wipe_length] at h1
  apply List.ext_getElem?
  intro i
  rw [wipe_get, wipe_get, h1]
  by_cases hi : i ∈ vs
  · rw [if_pos hi, if_pos hi]
  · rw [if_neg hi, if_neg hi, h2 i fun z => hi (sub i z), wipe_get, if_neg hi]

section
variable {X : Cx} {G : Gm} {tp : Option (Addr × Addr)}
/-- the parts of a comprehension's text -/
structure CompOk (X : Cx) (G : Gm) (tp : Option (Addr × Addr)) (elt : E) (tg : Tg) (src cond : E) (vs : List Nat) (e t it : Expr) (ifs : List Expr) (scope : Scope) : Prop where
  pi : PI X t it (jOf X.K G tp src)
  ok : BlkOk X.N X.env.scope scope (ownOf X.N vs)
  pg : ∀ (s : Shared) (H : Hp) (C : Addr) (cl : List (Str × Addr)) (fp : List Addr), PG (X.blk s H scope (compEnvC scope cl C X.env) fp) t (gOf X.K tp tg)
  pt : ∀ (s : Shared) (H : Hp) (C : Addr) (cl : List (Str × Addr)) (fp : List Addr), PTs (X.blk s H scope (compEnvC scope cl C X.env) fp) ifs (ttOf X.K G tp cond)
  pe : ∀ (s : Shared) (H : Hp) (C : Addr) (cl : List (Str × Addr)) (fp : List Addr), PE (X.blk s H scope (compEnvC scope cl C X.env) fp) e (tOf X.K G tp elt)
  nb : isBor elt = false
  sub : ∀ i ∈ tgS tg, i ∈ vs
  fs : ∀ x, foldedSetIterable it X.env x = pure x
theorem own_snd (N : List Str) (vs : List Nat) : (ownOf N vs).map (·.2) = vs := by
  unfold ownOf; rw [List.map_map]; induction vs with
  | nil => rfl
  | cons v r ih => simp only [List.map_cons, ih]; rfl
theorem comp_read {elt : E} {tg : Tg} {src cond : E} {vs : List Nat} (nb : isBor elt = false) (sub : ∀ i ∈ tgS tg, i ∈ vs) : ∀ σ H QL, nOf X.K G tp (.comp elt tg src cond vs) σ H QL → tLc (jOf X.K G tp src) (gOf X.K tp tg) (ttOf X.K G tp cond) (tOf X.K G tp elt) vs σ H QL := by
  intro σ H QL q
  obtain ⟨H0, σt, Q, r, w, k⟩ := q
  simp only [wE] at w
  refine ⟨H0, σt, _, r, w, fun items J H1 k1 t1 wk _ q D hD => ?_⟩
  clear w
  have offD : OffT tp D := t1.offN hD
  generalize hf : (fun (x : T) (acc : List T) (k : List T → Prop) => asg tg x (wipeT σt vs) fun σ' => wE G cond σ' fun c => tru c fun d => if d = true then wE G elt σ' fun y => k (acc ++ [y]) else k acc) = f at q
  refine ⟨fun i m Hc => i ≤ items.length ∧ m = items.length - i ∧ ∃ ts acc, Hc D = some (.lst acc) ∧ RTs X.K tp Hc ts acc ∧ ts.length ≤ i ∧ Kp tp H1 Hc ∧ Tp tp Hc ∧ wFold f (items.drop i) ts fun ys => Q (.lst ys),
    ⟨items.length, Nat.zero_le _, by simp, [], [], upd_same, .nil, Nat.le_refl _, Kp.new hD, t1.new hD, by rw [List.drop_zero]; exact q⟩, ?_⟩
  rintro i m Hc ⟨hi, rfl, ts, acc, hc, rs, hl, kc, tc, wf⟩
  by_cases hlt : i < items.length
  · right
    refine ⟨wk.goes i Hc kc tc hlt, fun Hn => i + 1 ≤ items.length ∧ ∃ ts acc, Hn D = some (.lst acc) ∧ RTs X.K tp Hn ts acc ∧ ts.length ≤ i + 1 ∧ Kp tp H1 Hn ∧ Tp tp Hn ∧ wFold f (items.drop (i + 1)) ts fun ys => Q (.lst ys),
      fun H' ⟨h1, h2⟩ => ⟨items.length - (i + 1), by omega, h1, rfl, h2⟩, fun v H' y => ?_⟩
    obtain ⟨k2, t2, x, ex, rx⟩ := wk.yields i Hc v H' kc tc hlt y
    rw [List.drop_eq_getElem_cons hlt] at wf
    have ex' : items[i] = x := by rw [List.getElem?_eq_getElem hlt] at ex; exact Option.some.inj ex
    rw [ex', wFold, ← hf] at wf
    have kk : Kp tp H H' := (k1.trans kc).trans k2
    refine ⟨H0, wipeT σt vs, x, _, (r.mono kk t2).wipe vs, rx, wf, fun σt' σ' r' ch q' => ⟨wipe_ch ch sub, H0, σt', _, r', q', fun b H3 k3 t3 q3 => ?_⟩⟩
    have d3 : H3 D = some (.lst acc) := k3 _ _ (k2 _ _ hc offD) offD
    have rs3 : RTs X.K tp H3 ts acc := RTs.kp k3 t2 _ _ (RTs.kp k2 tc _ _ rs)
    cases b with
    | false =>
      simp only [Bool.false_eq_true, if_false] at q3 ⊢
      rw [hf] at q3
      exact ⟨hlt, ts, acc, d3, rs3, by omega, (kc.trans k2).trans k3, t3, q3⟩
    | true =>
      simp only [if_true] at q3 ⊢
      rw [hf] at q3
      refine ⟨H0, σt', _, r'.mono k3 t3, q3, fun u y H4 k4 t4 _ rt q4 => ?_⟩
      have d4 : H4 D = some (.lst acc) := k4 _ _ d3 offD
      have la := rs.len
      have few := wk.few
      refine ⟨acc, d4, by omega, hlt, ts ++ [u], acc ++ [y], upd_same, RTs.stn (Stn.upd d4) _ _ ((RTs.kp k4 t3 _ _ rs3).app (.cons (rt nb) .nil)), by simp; omega, fun a o ea of => ?_, t4.updOff offD, q4⟩
      rw [upd_ne fun z => by subst z; rw [hD] at ea; cases ea]
      exact k4 a o (k3 a o (k2 a o (kc a o ea of) of) of) of
  · left
    have e : i = items.length := by omega
    subst e
    rw [List.drop_length, wFold] at wf
    exact ⟨wk.stops Hc kc tc, k _ _ Hc (k1.trans kc) tc (RN.lst (k1.free t1 hD) hc rs) wf⟩
theorem pe_comp {elt : E} {tg : Tg} {src cond : E} {vs : List Nat} {e t it : Expr} {ifs : List Expr} {scope : Scope} {pos : Pos} (hc : X.calm = true) (hN : X.N.Nodup) (c : CompOk X G tp elt tg src cond vs e t it ifs scope) :
    PE X (.ListComp e [⟨t, it, ifs, 0⟩] scope pos) (nOf X.K G tp (.comp elt tg src cond vs)) := by
  have h := pe_lc (pos := pos) hc hN c.pi c.ok c.pg c.pt c.pe c.fs
  rw [own_snd] at h
  exact PE.imp h (comp_read c.nb c.sub)
/-- name = [..] on one line, the name a local, kept -/
theorem ps_comp {elt : E} {tg : Tg} {src cond : E} {vs : List Nat} {e t it : Expr} {ifs : List Expr} {scope : Scope} {pos spos py : Pos} {i : Nat} {y : Str} (hc : X.calm = true) (hN : X.N.Nodup) (c : CompOk X G tp elt tg src cond vs e t it ifs scope)
    (hy : X.N[i]? = some y) (hyl : X.env.scope.names.lookup y = some .local) (hsw : swapsWith (.ListComp e [⟨t, it, ifs, 0⟩] scope pos) (some (.Name y py)) spos.line X.env = pure true) :
    PS X (.Assign [.Name y py] (.ListComp e [⟨t, it, ifs, 0⟩] scope pos) spos) (tAsg (nOf X.K G tp (.comp elt tg src cond vs)) (gName i)) := by
  have h := ps_setLc hc hN hy hyl hsw c.pi c.ok c.pg c.pt c.pe c.fs
  rw [own_snd] at h
  exact ⟨fun pins s σ H D I q => h.run pins s σ H D I (comp_read c.nb c.sub _ _ _ q)⟩
end
end TL

set_option Elab.async false
set_option linter.all false
set_option maxRecDepth 100000
set_option maxHeartbeats 16000000
/-! TLi: expressions. -/
namespace TL
open PySem PySem.Spec PyProof.Rows L2

section
variable {K : PySem.W.Frag} {G : Gm} {tp : Option (Addr × Addr)} {H0 H : Hp} {σt : TS} {σ : L2.St} {Q : K1} {QL : VK}
theorem read2 {a b : E} {f : T → T → K1 → Prop} (r : RS K tp H0 σt σ H) (w : wE G a σt fun x => wE G b σt fun y => f x y Q) (k : ∀ u v H', Kp tp H H' → Tp tp H' → RN K tp H H' u v → Q u → QL v H') :
    tOf K G tp a σ H fun x H1 => tOf K G tp b σ H1 fun y H2 => rT2 K tp f x y H2 QL :=
  ⟨H0, σt, _, r, w, fun u v H1 k1 t1 b1 _ q => ⟨H0, σt, _, r.mono k1 t1, q, fun u2 v2 H2 k2 t2 b2 _ q2 =>
    ⟨u, u2, Q, t2, b1.kp k2 t1, b2, q2, fun u3 v3 H3 k3 t3 n q3 => k u3 v3 H3 (k1.trans (k2.trans k3)) t3 (n.back (k1.trans k2) t2) q3⟩⟩⟩
def truD : T → Bool
  | .bl b => b
  | .int i => i != 0
  | .str x => decide (x.length ≠ 0)
  | .tup ts => !ts.isEmpty
  | .lst ts => !ts.isEmpty
  | _ => false
def truC : T → Prop
  | .str x => x.length ≤ sizeLine
  | .dic _ _ => False
  | .st _ => False
  | .tape => False
  | _ => True
theorem tru_iff (x : T) (Q : Bool → Prop) : tru x Q ↔ truC x ∧ Q (truD x) := by
  cases x <;> simp only [tru, truC, truD, true_and, false_and]
theorem tru_or (x : T) (A : Prop) (Q : Bool → Prop) : (tru x fun d => if d = true then A else tru x Q) = tru x fun d => if d = true then A else Q false := by
  refine propext ((tru_iff _ _).trans (Iff.trans ?_ (tru_iff _ _).symm))
  refine and_congr_right (fun c => ?_)
  show (if truD x = true then _ else _) ↔ (if truD x = true then _ else _)
  cases h : truD x
  · simp only [Bool.false_eq_true, if_false]
    rw [tru_iff, h]
    exact ⟨fun z => z.2, fun z => ⟨c, z⟩⟩
  · simp only [if_true]
theorem tru_or' (x : T) (A : Prop) (Q : Bool → Prop) : (tru x fun d => if d = true then tru x Q else A) = tru x fun d => if d = true then Q true else A := by
  refine propext ((tru_iff _ _).trans (Iff.trans ?_ (tru_iff _ _).symm))
  refine and_congr_right (fun c => ?_)
  show (if truD x = true then _ else _) ↔ (if truD x = true then _ else _)
  cases h : truD x
  · simp only [Bool.false_eq_true, if_false]
  · simp only [if_true]
    rw [tru_iff, h]
    exact ⟨fun z => z.2, fun z => ⟨c, z⟩⟩
end

section
variable {G : Gm} {Γ : GN} {k : Nat}
theorem chkE_ns {N : List Str} {e : E} {sc : Scope} {ex : Expr} (h : chkE Γ N e sc ex = true) (es : List Expr) (env : Env) : starEach (ex :: es) env = (false, eval ex env) :: starEach es env := by
  cases ex with
  | Starred v p => cases e <;> simp [chkE] at h
  | _ => rfl
theorem chkEs_ns {N : List Str} : ∀ {es : List E} {sc : Scope} {xs : List Expr} (pos : Pos) (env : Env), chkEs Γ N es sc xs = true → (backTo pos (starEach xs env)).any (·.1) = false
  | [], sc, xs, pos, env, h => by
    simp only [chkEs] at h
    cases xs with
    | nil => rfl
    | cons => cases h
  | e :: es, sc, xs, pos, env, h => by
    cases xs with
    | nil => simp only [chkEs] at h; cases h
    | cons x r =>
      simp only [chkEs, Bool.and_eq_true] at h
      rw [chkE_ns h.1.1]
      have ih := chkEs_ns pos env h.2
      unfold backTo at ih ⊢
      rw [List.map_cons, List.any_cons, ih]
      rfl
theorem plainIx_ok {e : Expr} (h : plainIx e = true) : PlainIx e := by
  cases e <;> first | (intro o i; rfl) | cases h
theorem notSet_b {op : CmpOp} {e : Expr} (h : isSet e = false) : behindInMarks op e = false := by
  cases e <;> first | rfl | cases h
theorem notSet_l {o p : CmpOp} {b c : Expr} (h : isSet b = false) (h2 : isSet c = false) : lastMarks [o, p] [b, c] = false := by
  show behindInMarks p c = false
  exact notSet_b h2
theorem notSet_f {e : Expr} (h : isSet e = false) (env : Env) : ∀ x, foldedSetIterable e env x = pure x := by
  intro x
  cases e <;> first | rfl | cases h
theorem bor_rt {a : E} (h : (!isBor a) = true) : isBor a = false := by simpa using h

/-- what is to be shown of an expression -/
structure Snd (X : Cx) (G : Gm) (Γ : GN) (tp : Option (Addr × Addr)) (e : E) (ex : Expr) : Prop where
  v : PE X ex (tOf X.K G tp e)
  n : isNew Γ e = true → PE X ex (nOf X.K G tp e)
  t : tstOk e = true → PT X ex (ttOf X.K G tp e)
  w : ∀ op vs pos, ex = .BoolOp op vs pos → tstOk e = true → PW X ex (ttOf X.K G tp e)
theorem tt_of {X : Cx} {tp : Option (Addr × Addr)} {e : E} {ex : Expr} (h : PE X ex (tOf X.K G tp e)) (he : ∀ whole, isTrue ex X.env whole = (do let v ← whole; standAt ex.pos; holding [v] (truthy v))) : PT X ex (ttOf X.K G tp e) := by
  refine PT.imp (pt_truth h he) fun σ H QL q => ?_
  obtain ⟨H0, σt, Q, r, w, k⟩ := q
  refine ⟨H0, σt, _, r, w, fun u v H' k1 t1 b _ q => ?_⟩
  obtain ⟨c, e, q⟩ := tru_of b q
  exact ⟨c, e, k c H' k1 t1 q⟩
theorem Snd.of_new {X : Cx} {tp : Option (Addr × Addr)} {e : E} {ex : Expr} (h : PE X ex (nOf X.K G tp e)) (he : tstOk e = true → ∀ whole, isTrue ex X.env whole = (do let v ← whole; standAt ex.pos; holding [v] (truthy v))) (hb : ∀ op vs pos, ex ≠ .BoolOp op vs pos) : Snd X G Γ tp e ex :=
  ⟨pe_frz h, fun _ => h, fun h1 => tt_of (pe_frz h) (he h1), fun op vs pos e => absurd e (hb op vs pos)⟩
theorem Snd.of_val {X : Cx} {tp : Option (Addr × Addr)} {e : E} {ex : Expr} (h : PE X ex (tOf X.K G tp e)) (hn : isNew Γ e = false) (he : tstOk e = true → ∀ whole, isTrue ex X.env whole = (do let v ← whole; standAt ex.pos; holding [v] (truthy v))) (hb : ∀ op vs pos, ex ≠ .BoolOp op vs pos) : Snd X G Γ tp e ex :=
  ⟨h, fun z => (by rw [hn] at z; cases z), fun h1 => tt_of h (he h1), fun op vs pos e => absurd e (hb op vs pos)⟩
/-- a tree that is told at once -/
theorem val_read {K : PySem.W.Frag} {tp : Option (Addr × Addr)} {e : E} {t : T} {v : V} (hw : ∀ σt Q, wE G e σt Q → Q t) (h : ∀ H, RT K tp H t v) : ∀ σ H QL, tOf K G tp e σ H QL → tC v σ H QL := fun σ H QL ⟨H0, σt, Q, r, w, k⟩ =>
  k t v H Kp.refl r.tpo (.inl (h H)) (fun _ => h H) (hw _ _ w)
theorem var_read {K : PySem.W.Frag} {tp : Option (Addr × Addr)} {i : Nat} : ∀ σ H QL, tOf K G tp (.var i) σ H QL → tVar i σ H QL := fun σ H QL ⟨H0, σt, Q, r, w, k⟩ => by
  simp only [wE] at w
  obtain ⟨t, e, q⟩ := slV_get w
  obtain ⟨v, e1, h⟩ := r.val i t e
  exact ⟨v, e1, k t v H Kp.refl r.tpo (.inl h) (fun _ => h) q⟩
theorem bor_read {K : PySem.W.Frag} {tp : Option (Addr × Addr)} {i : Nat} : ∀ σ H QL, tOf K G tp (.bor i) σ H QL → tVar i σ H QL := fun σ H QL ⟨H0, σt, Q, r, w, k⟩ => by
  simp only [wE] at w
  obtain ⟨t, e, q⟩ := slO_get w
  obtain ⟨p, e1, h, _⟩ := r.own i t e
  exact ⟨.ref p, e1, k t _ H Kp.refl r.tpo (.inr ⟨p, rfl, h⟩) (fun z => by simp [isBor] at z) q⟩

theorem gl_of {X : Cx} {sc : Scope} (e : X.env.scope = sc) {x : Str} (h : gloB sc x = true) : Gl X x := by
  unfold Gl
  show X.env.scope.names.lookup x = _
  rw [e]
  exact gloB_glo h
theorem mem_bl {l : List Str} {x : Str} (h : l.contains x = true) : x ∈ l := by simpa using h
theorem bltn_ne {x : Str} {y : Str} (h : x = y) (d : (y == ("__debug__" : Str)) = false) : (x == ("__debug__" : Str)) = false := by rw [h]; exact d
/-- the built-in functions of one argument -/
theorem b1_call {X : Cx} {tp : Option (Addr × Addr)} (hc : X.calm = true) {x : Str} {f : B1} (e : x = b1N f) (hg : Gl X x) (hm : X.mg x = none) {p pos : Pos} {a : Expr} {t : TA} (ha : PA X [a] t)
    (ns : ∀ es env, starEach (a :: es) env = (false, eval a env) :: starEach es env) : PE X (.Call (.Name x p) [a] [] pos) (tCB (rC1 X.K tp (b1F f)) t) := by
  subst e
  cases f
  case len => exact pe_callB c_len hg hm PySem.boot_len ha (by decide) (by decide) (ns [] _) rfl
  case abs => exact pe_callB c_abs hg hm (by decide +kernel) ha (by decide) (by decide) (ns [] _) rfl
  case sum => exact pe_callB (c_sum hc) hg hm (by decide +kernel) ha (by decide) (by decide) (ns [] _) rfl
  case all => exact pe_callB (c_all hc) hg hm (by decide +kernel) ha (by decide) (by decide) (ns [] _) rfl
  case any => exact pe_callB (c_any hc) hg hm (by decide +kernel) ha (by decide) (by decide) (ns [] _) rfl
  case max => exact pe_callB (c_max hc) hg hm (by decide +kernel) ha (by decide) (by decide) (ns [] _) rfl
  case min => exact pe_callB (c_min hc) hg hm (by decide +kernel) ha (by decide) (by decide) (ns [] _) rfl
  case tup => exact pe_callTy c_tup hg hm (by decide +kernel) ha (by decide) (by decide) (ns [] _) rfl
  case lst => exact pe_callTy c_lst hg hm (by decide +kernel) ha (by decide) (by decide) (ns [] _) rfl
  case sorted => exact pe_callB c_sorted hg hm (by decide +kernel) ha (by decide) (by decide) (ns [] _) rfl
  case int => exact pe_callTy c_int hg hm (by decide +kernel) ha (by decide) (by decide) (ns [] _) rfl
  case set => exact pe_callTy c_set hg hm (by decide +kernel) ha (by decide) (by decide) (ns [] _) rfl
  case str => exact pe_callTy c_str hg hm (by decide +kernel) ha (by decide) (by decide) (ns [] _) rfl
  case dict => exact pe_callTy c_dict hg hm (by decide +kernel) ha (by decide) (by decide) (ns [] _) rfl
theorem rng_rts {K : PySem.W.Frag} {tp : Option (Addr × Addr)} {H : Hp} (i j : Int) : RTs K tp H (rngL i (j - i).toNat) (rgV i j) := by
  have e1 : rngL i (j - i).toNat = ((List.range (j - i).toNat).map fun k => i + (k : Nat)).map T.int := by unfold rngL; rw [List.map_map]; rfl
  have e2 : rgV i j = ((List.range (j - i).toNat).map fun k => i + (k : Nat)).map V.int := by unfold rgV; rw [List.map_map]; rfl
  rw [e1, e2]
  exact RTs.of_ints _
theorem szSet {n c : Nat} (h : n + 1 < 4096) (h2 : c ≤ n) : c ≤ sizeLine := by
  have : (4096 : Nat) ≤ sizeLine := by rw [sizeLine_eq]; decide
  omega
theorem set_read {K : PySem.W.Frag} {w : World} {tp : Option (Addr × Addr)} {H : Hp} {x : T} {v : V} {ts : List T} {ns : List Int} {QL : VK} (t : Tp tp H) (b : RB K tp H x v) (e1 : itemsT x = some ts) (e2 : intsOf ts = some ns) (e3 : ns.length + 1 < 4096)
    (q : ∀ p c, H p = none → c ≤ ns.length → Tp tp (upd H p (SetO w p (fun j => decide (j ∈ ns)) c)) → Kp tp H (upd H p (SetO w p (fun j => decide (j ∈ ns)) c)) → QL (.ref p) (upd H p (SetO w p (fun j => decide (j ∈ ns)) c))) :
    rSetI K w [v] H QL := by
  cases x <;> simp only [itemsT, Option.some.injEq] at e1 <;> try cases e1
  · obtain ⟨a, vs, rfl, sa, ra⟩ := b.tup
    obtain rfl := ra.ints e2
    exact ⟨a, ns, rfl, .inr sa, e3, fun p c hp hc => q p c hp hc (t.new hp) (Kp.new hp)⟩
  · obtain ⟨a, vs, rfl, sa, ra⟩ := b.lst
    obtain rfl := ra.ints e2
    exact ⟨a, ns, rfl, .inl (.inl sa), e3, fun p c hp hc => q p c hp hc (t.new hp) (Kp.new hp)⟩
theorem b2_call {X : Cx} {tp : Option (Addr × Addr)} (hc : X.calm = true) {x : Str} {f : B2} (e : x = b2N f) (hg : Gl X x) (hm : X.mg x = none) {p pos : Pos} {a b : Expr} {t : TA} (ha : PA X [a, b] t)
    (ns : ∀ es env, starEach (a :: es) env = (false, eval a env) :: starEach es env) (pl : (backTo pos (starEach [b] X.env)).any (·.1) = false) : PE X (.Call (.Name x p) [a, b] [] pos) (tCB (rC2 X.K tp (b2F f)) t) := by
  subst e
  cases f
  case max => exact pe_callB (c_max2 hc) hg hm PyProof.Rows.boot_max ha (by decide) (by decide) (ns [b] _) pl
  case min => exact pe_callB (c_min2 hc) hg hm PyProof.Rows.boot_min ha (by decide) (by decide) (ns [b] _) pl
theorem cmp2_bl {op : CO} {x y : T} {Q : K1} (h : cmp2 op x y Q) : cmp2 op x y fun z => (∃ d, z = .bl d) ∧ Q z := by
  cases op <;> simp only [cmp2] at h ⊢
  · exact ⟨h.1, ⟨_, rfl⟩, h.2⟩
  · exact ⟨h.1, ⟨_, rfl⟩, h.2⟩
  · cases x <;> cases y <;> simp only [ltF] at h ⊢
    · exact ⟨⟨_, rfl⟩, h⟩
    · exact ⟨⟨_, rfl⟩, h⟩
    · obtain ⟨h1, d, h2, h3⟩ := h; exact ⟨h1, d, h2, ⟨_, rfl⟩, h3⟩
  · cases x <;> cases y <;> simp only [leF] at h ⊢
    exact ⟨⟨_, rfl⟩, h⟩
  · obtain ⟨i, j, e1, e2, h⟩ := h; exact ⟨i, j, e1, e2, ⟨_, rfl⟩, h⟩
  · cases x <;> cases y <;> simp only [leF] at h ⊢
    exact ⟨⟨_, rfl⟩, h⟩
  · obtain ⟨d, e, h⟩ := h; exact ⟨d, e, ⟨_, rfl⟩, h⟩
  · obtain ⟨d, e, h⟩ := h; exact ⟨d, e, ⟨_, rfl⟩, h⟩
  · cases y <;> simp only [inF] at h ⊢
    · exact ⟨h.1, ⟨_, rfl⟩, h.2⟩
    · exact ⟨h.1, ⟨_, rfl⟩, h.2⟩
  · cases y <;> simp only [ninF] at h ⊢
    · exact ⟨h.1, ⟨_, rfl⟩, h.2⟩
    · exact ⟨h.1, ⟨_, rfl⟩, h.2⟩
theorem bl_rt {K : PySem.W.Frag} {tp : Option (Addr × Addr)} {H0 H : Hp} {d : Bool} {v : V} (n : RN K tp H0 H (.bl d) v) : RT K tp H (.bl d) v := by
  rcases n with ⟨p, ts, vs, z, _⟩ | ⟨_, n⟩
  · cases z
  · exact n
theorem bl_v {K : PySem.W.Frag} {tp : Option (Addr × Addr)} {H0 H : Hp} {d : Bool} {v : V} (n : RN K tp H0 H (.bl d) v) : v = .bl d := by
  have := bl_rt n
  simpa only [RT] using this
/-- two in a row, with a step behind -/
theorem read2' {K : PySem.W.Frag} {tp : Option (Addr × Addr)} {H0 H : Hp} {σt : TS} {σ : L2.St} {Q : K1} {a b : E} {f : T → T → K1 → Prop} {R : V → V → Hp → Prop} (r : RS K tp H0 σt σ H) (w : wE G a σt fun x => wE G b σt fun y => f x y Q)
    (k : ∀ u u2 v v2 H', Kp tp H H' → Tp tp H' → RB K tp H' u v → RB K tp H' u2 v2 → f u u2 Q → R v v2 H') : tOf K G tp a σ H fun x H1 => tOf K G tp b σ H1 fun y H2 => R x y H2 :=
  ⟨H0, σt, _, r, w, fun u v H1 k1 t1 b1 _ q => ⟨H0, σt, _, r.mono k1 t1, q, fun u2 v2 H2 k2 t2 b2 _ q2 => k u u2 v v2 H2 (k1.trans k2) t2 (b1.kp k2 t1) b2 q2⟩⟩
theorem PTs.imp {X : Cx} {ifs : List Expr} {t t' : TT} (h : PTs X ifs t) (i : ∀ σ H Q, t' σ H Q → t σ H Q) : PTs X ifs t' := ⟨fun pins s σ H Q I q => h.run pins s σ H Q I (i σ H Q q)⟩
theorem blk_tg {X : Cx} {s : Shared} {H : Hp} {scope : Scope} {C : Addr} {cl : List (Str × Addr)} {fp : List Addr} : TgOk (X.blk s H scope (compEnvC scope cl C X.env) fp) scope where
  loc := fun x h => lookup_relS_keep (by decide) h
  cell := fun x h => ⟨lookup_relS_keep (by decide) h, by show (scope.names.lookup x == some NameKind.cell) = true; rw [h]; rfl⟩
end
end TL

set_option Elab.async false
set_option linter.all false
set_option maxRecDepth 100000
set_option maxHeartbeats 16000000
/-! TLj: each expression that the look takes. -/
namespace TL
open PySem PySem.Spec PyProof.Rows L2

section
variable {G : Gm} {Γ : GN} {k : Nat}
mutual
theorem sndE {tp : Option (Addr × Addr)} : ∀ (e : E) (X : Cx) (sc : Scope) (ex : Expr), CxOk G Γ k X → X.env.scope = sc → chkE Γ X.N e sc ex = true → Snd X G Γ tp e ex
  | .var i, X, sc, ex, c, hs, h => by
    simp only [chkE] at h
    split at h
    case h_2 => cases h
    rename_i x p
    simp only [Bool.and_eq_true, decide_eq_true_eq] at h
    exact Snd.of_val (PE.imp (pe_var h.1.1 (by rw [hs]; exact visB_vis h.1.2) (dbgB_1 h.2) (dbgB_2 h.2)) var_read) rfl (fun _ _ => rfl) (fun _ _ _ z => by cases z)
  | .bor i, X, sc, ex, c, hs, h => by
    simp only [chkE] at h
    split at h
    case h_2 => cases h
    rename_i x p
    simp only [Bool.and_eq_true, decide_eq_true_eq] at h
    exact Snd.of_val (PE.imp (pe_var h.1.1 (by rw [hs]; exact visB_vis h.1.2) (dbgB_1 h.2) (dbgB_2 h.2)) bor_read) rfl (fun _ _ => rfl) (fun _ _ _ z => by cases z)
  | .int i, X, sc, ex, c, hs, h => by
    simp only [chkE] at h
    split at h
    case h_2 => cases h
    simp only [decide_eq_true_eq] at h
    subst h
    exact Snd.of_val (PE.imp pe_int (val_read (fun σt Q w => by simpa only [wE] using w) fun H => RT.int_i _)) rfl (fun _ _ => rfl) (fun _ _ _ z => by cases z)
  | .str x, X, sc, ex, c, hs, h => by
    simp only [chkE] at h
    split at h
    case h_2 => cases h
    simp only [Bool.and_eq_true, decide_eq_true_eq] at h
    obtain ⟨rfl, h2⟩ := h
    exact Snd.of_val (PE.imp pe_str (val_read (fun σt Q w => by simpa only [wE] using w) fun H => RT.str_i h2)) rfl (fun _ _ => rfl) (fun _ _ _ z => by cases z)
  | .bl b, X, sc, ex, c, hs, h => by
    simp only [chkE] at h
    split at h
    case h_2 => cases h
    simp only [decide_eq_true_eq] at h
    subst h
    exact Snd.of_val (PE.imp pe_bl (val_read (fun σt Q w => by simpa only [wE] using w) fun H => RT.bl_i _)) rfl (fun _ _ => rfl) (fun _ _ _ z => by cases z)
  | .non, X, sc, ex, c, hs, h => by
    simp only [chkE] at h
    split at h
    case h_2 => cases h
    exact Snd.of_val (PE.imp pe_non (val_read (fun σt Q w => by simpa only [wE] using w) fun H => RT.non_i)) rfl (fun _ _ => rfl) (fun _ _ _ z => by cases z)
  | .glo i, X, sc, ex, c, hs, h => by
    simp only [chkE] at h
    split at h
    case h_2 => cases h
    rename_i x p
    simp only [Bool.and_eq_true, decide_eq_true_eq] at h
    obtain ⟨v, u, hm, rv, rt⟩ := c.cs i x h.1.1
    exact Snd.of_val (PE.imp (pe_glob (gl_of hs h.1.2) hm rv (dbgB_1 h.2)) (val_read (fun σt Q w => by simpa only [wE] using w) (rt tp))) rfl (fun _ _ => rfl) (fun _ _ _ z => by cases z)
  | .bin op a b, X, sc, ex, c, hs, h => by
    simp only [chkE] at h
    split at h
    case h_2 => cases h
    simp only [Bool.and_eq_true] at h
    obtain rfl := opOk_eq h.1.1
    refine Snd.of_new (PE.imp (pe_op (op_bin (tp := tp) op) (sndE (tp := tp) a X sc _ c hs h.1.2).v (sndE (tp := tp) b X sc _ c hs h.2).v) fun σ H QL q => ?_) (fun _ _ => rfl) (fun _ _ _ z => by cases z)
    obtain ⟨H0, σt, Q, r, w, kk⟩ := q
    simp only [wE] at w
    exact read2 r w kk
  | .neg a, X, sc, ex, c, hs, h => by
    simp only [chkE] at h
    split at h
    case h_2 => cases h
    refine Snd.of_val (PE.imp (pe_un un_neg (sndE (tp := tp) a X sc _ c hs h).v) fun σ H QL q => ?_) rfl (fun _ _ => rfl) (fun _ _ _ z => by cases z)
    obtain ⟨H0, σt, Q, r, w, kk⟩ := q
    simp only [wE] at w
    refine ⟨H0, σt, _, r, w, fun u v H1 k1 t1 b1 _ q => ?_⟩
    obtain ⟨i, rfl, q⟩ := q
    obtain rfl := b1.int
    exact ⟨i, rfl, kk _ _ H1 k1 t1 (.inl (RT.int_i _)) (fun _ => RT.int_i _) q⟩
  | .not a, X, sc, ex, c, hs, h => by
    simp only [chkE] at h
    split at h
    case h_2 => cases h
    have sa := sndE (tp := tp) a X sc _ c hs h
    refine ⟨PE.imp (pe_notT sa.v) fun σ H QL q => ?_, (fun z => by cases z), fun ht => PT.imp (pt_not (sa.t ht)) fun σ H QL q => ?_, (fun _ _ _ z => by cases z)⟩
    · obtain ⟨H0, σt, Q, r, w, kk⟩ := q
      simp only [wE] at w
      refine ⟨H0, σt, _, r, w, fun u v H1 k1 t1 b1 _ q => ?_⟩
      obtain ⟨d, e, q⟩ := tru_of b1 q
      exact ⟨d, e, kk _ _ H1 k1 t1 (.inl (RT.bl_i _)) (fun _ => RT.bl_i _) q⟩
    · obtain ⟨H0, σt, Q, r, w, kk⟩ := q
      simp only [wE, tru] at w
      exact ⟨H0, σt, _, r, w, fun b H1 k1 t1 q => kk _ H1 k1 t1 q⟩
  | .cmp op a b, X, sc, ex, c, hs, h => by
    simp only [chkE] at h
    split at h
    case h_2 => cases h
    simp only [Bool.and_eq_true, Bool.not_eq_true'] at h
    obtain rfl := coOk_eq h.1.1.1
    have sa := sndE (tp := tp) a X sc _ c hs h.1.1.2
    have sb := sndE (tp := tp) b X sc _ c hs h.1.2
    refine ⟨PE.imp (pe_cmpR (op_cmp (tp := tp) c.un op) sa.v sb.v (notSet_b h.2)) fun σ H QL q => ?_, (fun z => by cases z), fun _ => PT.imp (pt_cmpR (op_cmp (tp := tp) c.un op) sa.v sb.v (notSet_b h.2)) fun σ H QL q => ?_, (fun _ _ _ z => by cases z)⟩
    · obtain ⟨H0, σt, Q, r, w, kk⟩ := q
      simp only [wE] at w
      refine read2' r w fun u u2 v v2 H2 k2 t2 b1 b2 q2 => ⟨u, u2, _, t2, b1, b2, cmp2_bl q2, fun u3 v3 H3 k3 t3 n q3 => ?_⟩
      obtain ⟨⟨d, rfl⟩, q3⟩ := q3
      exact kk _ _ H3 (k2.trans k3) t3 (.inl (bl_rt n)) (fun _ => bl_rt n) q3
    · obtain ⟨H0, σt, Q, r, w, kk⟩ := q
      simp only [wE] at w
      refine read2' r w fun u u2 v v2 H2 k2 t2 b1 b2 q2 => ⟨u, u2, _, t2, b1, b2, cmp2_bl q2, fun u3 v3 H3 k3 t3 n q3 => ?_⟩
      obtain ⟨⟨d, rfl⟩, q3⟩ := q3
      simp only [tru] at q3
      exact ⟨d, bl_v n, kk d H3 (k2.trans k3) t3 q3⟩
  | .chain o p a b d, X, sc, ex, c, hs, h => by
    simp only [chkE] at h
    split at h
    case h_2 => cases h
    simp only [Bool.and_eq_true, Bool.not_eq_true'] at h
    obtain ⟨⟨⟨⟨⟨⟨h1, h2⟩, h3⟩, h4⟩, h5⟩, h6⟩, h7⟩ := h
    obtain rfl := coOk_eq h1
    obtain rfl := coOk_eq h2
    have sa := sndE (tp := tp) a X sc _ c hs h3
    have sb := sndE (tp := tp) b X sc _ c hs h4
    have sd := sndE (tp := tp) d X sc _ c hs h5
    refine ⟨PE.imp (pe_chain (op_cmp (tp := tp) c.un o) (op_cmp (tp := tp) c.un p) sa.v sb.v sd.v (notSet_l h6 h7)) fun σ H QL q => ?_, (fun z => by cases z),
      fun _ => PT.imp (pt_chain (op_cmp (tp := tp) c.un o) (op_cmp (tp := tp) c.un p) sa.v sb.v sd.v (notSet_l h6 h7)) fun σ H QL q => ?_, (fun _ _ _ z => by cases z)⟩
    · obtain ⟨H0, σt, Q, r, w, kk⟩ := q
      simp only [wE] at w
      refine ⟨H0, σt, _, r, w, fun u v H1 k1 t1 b1 _ q => ⟨H0, σt, _, r.mono k1 t1, q, fun u2 v2 H2 k2 t2 b2 _ q2 => ⟨u, u2, _, t2, b1.kp k2 t1, b2, q2, fun u3 v3 H3 k3 t3 n q3 => ?_⟩⟩⟩
      obtain ⟨e, rfl, q3⟩ := q3
      refine ⟨e, bl_v n, ?_⟩
      have k13 := k1.trans (k2.trans k3)
      cases e with
      | true =>
        refine ⟨H0, σt, _, r.mono k13 t3, q3, fun u4 v4 H4 k4 t4 b4 _ q4 => ⟨u2, u4, _, t4, b2.kp (k3.trans k4) t2, b4, cmp2_bl q4, fun u5 v5 H5 k5 t5 n5 q5 => ?_⟩⟩
        obtain ⟨⟨z, rfl⟩, q5⟩ := q5
        exact kk _ _ H5 (k13.trans (k4.trans k5)) t5 (.inl (bl_rt n5)) (fun _ => bl_rt n5) q5
      | false => exact kk _ _ H3 k13 t3 (.inl (RT.bl_i _)) (fun _ => RT.bl_i _) q3
    · obtain ⟨H0, σt, Q, r, w, kk⟩ := q
      simp only [wE] at w
      refine ⟨H0, σt, _, r, w, fun u v H1 k1 t1 b1 _ q => ⟨H0, σt, _, r.mono k1 t1, q, fun u2 v2 H2 k2 t2 b2 _ q2 => ⟨u, u2, _, t2, b1.kp k2 t1, b2, q2, fun u3 v3 H3 k3 t3 n q3 => ?_⟩⟩⟩
      obtain ⟨e, rfl, q3⟩ := q3
      refine ⟨e, bl_v n, ?_⟩
      have k13 := k1.trans (k2.trans k3)
      cases e with
      | true =>
        refine ⟨H0, σt, _, r.mono k13 t3, q3, fun u4 v4 H4 k4 t4 b4 _ q4 => ⟨u2, u4, _, t4, b2.kp (k3.trans k4) t2, b4, cmp2_bl q4, fun u5 v5 H5 k5 t5 n5 q5 => ?_⟩⟩
        obtain ⟨⟨z, rfl⟩, q5⟩ := q5
        simp only [tru] at q5
        exact ⟨z, bl_v n5, kk z H5 (k13.trans (k4.trans k5)) t5 q5⟩
      | false =>
        simp only [Bool.false_eq_true, if_false, tru] at q3
        exact ⟨false, rfl, kk false H3 k13 t3 q3⟩
  | .and a b, X, sc, ex, c, hs, h => by
    simp only [chkE] at h
    split at h
    case h_2 => cases h
    rename_i x y rest pos
    simp only [Bool.and_eq_true] at h
    have sa := sndE (tp := tp) a X sc _ c hs h.1.1.1
    have sb : Snd X G Γ tp b (match rest with | [] => y | z :: zs => .BoolOp .And (y :: z :: zs) pos) := by
      cases rest with
      | nil => exact sndE b X sc _ c hs h.2
      | cons z zs => exact sndE b X sc _ c hs h.2
    have vb : PE X (.BoolOp .And (y :: rest) pos) (tOf X.K G tp b) := by
      cases rest with
      | nil => exact pe_one sb.v
      | cons z zs => exact sb.v
    have wb : tstOk b = true → PW X (.BoolOp .And (y :: rest) pos) (ttOf X.K G tp b) := fun ht => by
      cases rest with
      | nil => exact pw_and1 (sb.t ht)
      | cons z zs => exact sb.w _ _ _ rfl ht
    have ww : tstOk (.and a b) = true → PW X (.BoolOp .And (x :: y :: rest) pos) (ttOf X.K G tp (.and a b)) := fun ht => by
      simp only [tstOk, Bool.and_eq_true] at ht
      refine ⟨fun wh pins s σ H QL I q => (pw_and (sa.t ht.1) (wb ht.2)).run wh pins s σ H QL I ?_⟩
      obtain ⟨H0, σt, Q, r, w, kk⟩ := q
      simp only [wE] at w
      refine ⟨H0, σt, fun d => if d = true then tst G b σt Q else Q false, r, ?_, fun d H1 k1 t1 q => ?_⟩
      · have e : (fun x => tru x fun d => if d = true then wE G b σt fun x => tru x Q else tru x Q) = fun x => tru x fun d => if d = true then tst G b σt Q else Q false := by
          funext x
          exact tru_or x _ _
        rw [e] at w
        exact w
      · cases d with
        | true => exact ⟨H0, σt, _, r.mono k1 t1, q, fun b H2 k2 t2 q2 => kk b H2 (k1.trans k2) t2 q2⟩
        | false => exact kk false H1 k1 t1 q
    refine ⟨PE.imp (pe_andT sa.v vb) fun σ H QL q => ?_, (fun z => by cases z), fun ht => (ww ht).pt, (fun op vs pos' e ht => by cases e; exact ww ht)⟩
    obtain ⟨H0, σt, Q, r, w, kk⟩ := q
    simp only [wE] at w
    refine ⟨H0, σt, _, r, w, fun u v H1 k1 t1 b1 rt q => ?_⟩
    obtain ⟨d, e, q⟩ := tru_of b1 q
    refine ⟨d, e, ?_⟩
    cases d with
    | true => exact ⟨H0, σt, _, r.mono k1 t1, q, fun u2 v2 H2 k2 t2 b2 rt2 q2 => kk u2 v2 H2 (k1.trans k2) t2 b2 (fun _ => rt2 (bor_rt h.1.2)) q2⟩
    | false => exact kk u v H1 k1 t1 b1 (fun _ => rt (bor_rt h.1.1.2)) q
  | .or a b, X, sc, ex, c, hs, h => by
    simp only [chkE] at h
    split at h
    case h_2 => cases h
    rename_i x y rest pos
    simp only [Bool.and_eq_true] at h
    have sa := sndE (tp := tp) a X sc _ c hs h.1.1.1
    have sb : Snd X G Γ tp b (match rest with | [] => y | z :: zs => .BoolOp .Or (y :: z :: zs) pos) := by
      cases rest with
      | nil => exact sndE b X sc _ c hs h.2
      | cons z zs => exact sndE b X sc _ c hs h.2
    have vb : PE X (.BoolOp .Or (y :: rest) pos) (tOf X.K G tp b) := by
      cases rest with
      | nil => exact pe_one sb.v
      | cons z zs => exact sb.v
    have wb : tstOk b = true → PW X (.BoolOp .Or (y :: rest) pos) (ttOf X.K G tp b) := fun ht => by
      cases rest with
      | nil => exact pw_or1 (sb.t ht)
      | cons z zs => exact sb.w _ _ _ rfl ht
    have ww : tstOk (.or a b) = true → PW X (.BoolOp .Or (x :: y :: rest) pos) (ttOf X.K G tp (.or a b)) := fun ht => by
      simp only [tstOk, Bool.and_eq_true] at ht
      refine ⟨fun wh pins s σ H QL I q => (pw_or (sa.t ht.1) (wb ht.2)).run wh pins s σ H QL I ?_⟩
      obtain ⟨H0, σt, Q, r, w, kk⟩ := q
      simp only [wE] at w
      refine ⟨H0, σt, fun d => if d = true then Q true else tst G b σt Q, r, ?_, fun d H1 k1 t1 q => ?_⟩
      · have e : (fun x => tru x fun d => if d = true then tru x Q else wE G b σt fun x => tru x Q) = fun x => tru x fun d => if d = true then Q true else tst G b σt Q := by
          funext x
          exact tru_or' x _ _
        rw [e] at w
        exact w
      · cases d with
        | false => exact ⟨H0, σt, _, r.mono k1 t1, q, fun b H2 k2 t2 q2 => kk b H2 (k1.trans k2) t2 q2⟩
        | true => exact kk true H1 k1 t1 q
    refine ⟨PE.imp (pe_orT sa.v vb) fun σ H QL q => ?_, (fun z => by cases z), fun ht => (ww ht).pt, (fun op vs pos' e ht => by cases e; exact ww ht)⟩
    obtain ⟨H0, σt, Q, r, w, kk⟩ := q
    simp only [wE] at w
    refine ⟨H0, σt, _, r, w, fun u v H1 k1 t1 b1 rt q => ?_⟩
    obtain ⟨d, e, q⟩ := tru_of b1 q
    refine ⟨d, e, ?_⟩
    cases d with
    | false => exact ⟨H0, σt, _, r.mono k1 t1, q, fun u2 v2 H2 k2 t2 b2 rt2 q2 => kk u2 v2 H2 (k1.trans k2) t2 b2 (fun _ => rt2 (bor_rt h.1.2)) q2⟩
    | true => exact kk u v H1 k1 t1 b1 (fun _ => rt (bor_rt h.1.1.2)) q
  | .ite d a b, X, sc, ex, c, hs, h => by
    simp only [chkE] at h
    split at h
    case h_2 => cases h
    simp only [Bool.and_eq_true] at h
    have sd := sndE (tp := tp) d X sc _ c hs h.1.1.1.1.1
    have sa := sndE (tp := tp) a X sc _ c hs h.1.1.1.2
    have sb := sndE (tp := tp) b X sc _ c hs h.1.1.2
    refine ⟨PE.imp (pe_ifExp (sd.t h.1.1.1.1.2) sa.v sb.v) fun σ H QL q => ?_, fun hn => ?_, (fun z => by cases z), (fun _ _ _ z => by cases z)⟩
    · obtain ⟨H0, σt, Q, r, w, kk⟩ := q
      simp only [wE] at w
      refine ⟨H0, σt, _, r, w, fun e H1 k1 t1 q => ?_⟩
      cases e with
      | true => exact ⟨H0, σt, _, r.mono k1 t1, q, fun u2 v2 H2 k2 t2 b2 rt2 q2 => kk u2 v2 H2 (k1.trans k2) t2 b2 (fun _ => rt2 (bor_rt h.1.2)) q2⟩
      | false => exact ⟨H0, σt, _, r.mono k1 t1, q, fun u2 v2 H2 k2 t2 b2 rt2 q2 => kk u2 v2 H2 (k1.trans k2) t2 b2 (fun _ => rt2 (bor_rt h.2)) q2⟩
    · simp only [isNew, Bool.and_eq_true] at hn
      refine PE.imp (pe_ifExp (sd.t h.1.1.1.1.2) (sa.n hn.1) (sb.n hn.2)) fun σ H QL q => ?_
      obtain ⟨H0, σt, Q, r, w, kk⟩ := q
      simp only [wE] at w
      refine ⟨H0, σt, _, r, w, fun e H1 k1 t1 q => ?_⟩
      cases e with
      | true => exact ⟨H0, σt, _, r.mono k1 t1, q, fun u2 v2 H2 k2 t2 n q2 => kk u2 v2 H2 (k1.trans k2) t2 (n.back k1 t1) q2⟩
      | false => exact ⟨H0, σt, _, r.mono k1 t1, q, fun u2 v2 H2 k2 t2 n q2 => kk u2 v2 H2 (k1.trans k2) t2 (n.back k1 t1) q2⟩
  | .tup es, X, sc, ex, c, hs, h => by
    simp only [chkE] at h
    split at h
    case h_2 => cases h
    refine Snd.of_val (PE.imp (pe_tup (sndEs (tp := tp) es X sc _ c hs h)) fun σ H QL q => ?_) rfl (fun _ _ => rfl) (fun _ _ _ z => by cases z)
    obtain ⟨H0, σt, Q, r, w, kk⟩ := q
    simp only [wE] at w
    refine ⟨H0, σt, _, r, w, fun us vs H1 k1 t1 rs q => ⟨by rw [← rs.len]; exact Nat.le_trans q.1 (by rw [sizeLine_eq]; decide), fun p hp => ?_⟩⟩
    have rt : RT X.K tp (upd H1 p (.tup vs)) (.tup us) (.ref p) := RT.tup_i (SqT.of upd_same) (RTs.stn (Stn.new hp) _ _ rs)
    exact kk _ _ _ (k1.trans (Kp.new hp)) (t1.new hp) (.inl rt) (fun _ => rt) q.2
  | .lst es, X, sc, ex, c, hs, h => by
    simp only [chkE] at h
    split at h
    case h_2 => cases h
    refine Snd.of_new (PE.imp (pe_lst (sndEs (tp := tp) es X sc _ c hs h)) fun σ H QL q => ?_) (fun _ _ => rfl) (fun _ _ _ z => by cases z)
    obtain ⟨H0, σt, Q, r, w, kk⟩ := q
    simp only [wE] at w
    refine ⟨H0, σt, _, r, w, fun us vs H1 k1 t1 rs q => ⟨by rw [← rs.len]; exact Nat.le_trans q.1 (by rw [sizeLine_eq]; decide), fun p hp => ?_⟩⟩
    exact new_lst t1 rs q.2 (fun u v H' k2 t2 n q2 => kk u v H' (k1.trans k2) t2 (n.back k1 t1) q2) p hp
  | .call f es, X, sc, ex, c, hs, h => by
    simp only [chkE] at h
    split at h
    case h_2 => cases h
    rename_i x p xs pos
    simp only [Bool.and_eq_true] at h
    obtain ⟨⟨⟨h1, h2⟩, h3⟩, h4⟩ := h
    cases hf : Γ.fn[f]? with
    | none => rw [hf] at h1; cases h1
    | some z =>
      obtain ⟨y, fr⟩ := z
      rw [hf] at h1
      simp only [decide_eq_true_eq] at h1
      subst h1
      obtain ⟨fa, fd, ps, hm, hk, hb, F⟩ := c.fn f x fr hf
      have sa := sndEs (tp := tp) es X sc _ c hs h4
      have gx := gl_of hs h2
      have core : PE X (.Call (.Name x p) xs [] pos) (tCall (lift X.K fr (G.fn f)) [] E0 (aOf X.K G tp es)) := by
        cases xs with
        | nil =>
          have e0 := pe_call0 (p := p) (pos := pos) F c.rm gx hm hk hb .nil pass0 (dbgB_1 h3)
          refine PE.imp e0 fun σ H QL q => ?_
          cases es with
          | cons => simp only [chkEs] at h4; cases h4
          | nil =>
            obtain ⟨H0, σt, Q, r, w, kk⟩ := q
            simp only [wEs] at w
            exact kk [] [] H Kp.refl r.tpo .nil w
        | cons x0 r0 =>
          cases es with
          | nil => simp only [chkEs] at h4; cases h4
          | cons e0 es0 =>
            have h5 := h4
            simp only [chkEs, Bool.and_eq_true] at h5
            exact pe_call F c.rm gx hm hk hb .nil pass0 sa (dbgB_1 h3) (chkE_ns h5.1.1 _ _) (chkEs_ns _ _ h5.2)
      have nw : isNew Γ (.call f es) = fr := by simp only [isNew, hf]
      have rd : ∀ (B : Bool), B = fr → ∀ σ H QL, (∃ H0 σt Q, RS X.K tp H0 σt σ H ∧ wE G (.call f es) σt Q ∧ ∀ u v H', Kp tp H H' → Tp tp H' → (if B = true then RN X.K tp H H' u v else RT X.K tp H' u v) → Q u → QL v H') → tCall (lift X.K fr (G.fn f)) [] E0 (aOf X.K G tp es) σ H QL := fun B hB σ H QL q => by
        obtain ⟨H0, σt, Q, r, w, kk⟩ := q
        simp only [wE] at w
        refine ⟨H0, σt, _, r, w, fun us vs H1 k1 t1 rs q => ⟨tp, us, Q, t1, by rw [List.append_nil]; exact rs, q, fun u v H2 k2 t2 n q2 => kk u v H2 (k1.trans k2) t2 ?_ q2⟩⟩
        subst hB
        cases B with
        | true => simp only [if_true] at n ⊢; exact n.back k1 t1
        | false => simpa using n
      cases fr with
      | true => exact Snd.of_new (PE.imp core fun σ H QL ⟨H0, σt, Q, r, w, kk⟩ => rd true rfl σ H QL ⟨H0, σt, Q, r, w, by simpa using kk⟩) (fun _ _ => rfl) (fun _ _ _ z => by cases z)
      | false =>
        refine Snd.of_val (PE.imp core fun σ H QL q => ?_) nw (fun _ _ => rfl) (fun _ _ _ z => by cases z)
        obtain ⟨H0, σt, Q, r, w, kk⟩ := q
        exact rd false rfl σ H QL ⟨H0, σt, Q, r, w, fun u v H' k1 t1 n q => by
          have n' : RT X.K tp H' u v := by simpa using n
          exact kk u v H' k1 t1 (.inl n') (fun _ => n') q⟩
  | .b1 f a, X, sc, ex, c, hs, h => by
    simp only [chkE] at h
    split at h
    case h_2 => cases h
    rename_i x p e pos
    simp only [Bool.and_eq_true, decide_eq_true_eq] at h
    obtain ⟨⟨⟨h1, h2⟩, h3⟩, h4⟩ := h
    have sa := sndE (tp := tp) a X sc _ c hs h4
    have core := b1_call (tp := tp) (p := p) (pos := pos) c.calm h1 (gl_of hs h3) (c.bl x (mem_bl h2)) (pa_cons sa.v pa_nil (chkE_ns h4 _ _)) (chkE_ns h4)
    refine Snd.of_new (PE.imp core fun σ H QL q => ?_) (fun _ _ => rfl) (fun _ _ _ z => by cases z)
    obtain ⟨H0, σt, Q, r, w, kk⟩ := q
    simp only [wE] at w
    exact ⟨H0, σt, _, r, w, fun u v H1 k1 t1 b1 _ q => ⟨v, u, Q, rfl, t1, b1, q, fun u3 v3 H3 k3 t3 n q3 => kk u3 v3 H3 (k1.trans k3) t3 (n.back k1 t1) q3⟩⟩
  | .dead, X, sc, ex, c, hs, h =>
    { v := ⟨fun pins s σ H QL I q => by obtain ⟨H0, σt, Q, r, w, kk⟩ := q; simp only [wE] at w⟩
      n := fun _ => ⟨fun pins s σ H QL I q => by obtain ⟨H0, σt, Q, r, w, kk⟩ := q; simp only [wE] at w⟩
      t := fun _ => ⟨fun pins s σ H QL I q => by obtain ⟨H0, σt, Q, r, w, kk⟩ := q; simp only [wE] at w⟩
      w := fun _ _ _ _ _ => ⟨fun whole pins s σ H QL I q => by obtain ⟨H0, σt, Q, r, w, kk⟩ := q; simp only [wE] at w⟩ }
  | .rev a, X, sc, ex, c, hs, h => by
    simp only [chkE] at h
    split at h
    case h_2 => cases h
    rename_i v j p1 p2 p3 p4 p5
    simp only [Bool.and_eq_true, decide_eq_true_eq] at h
    obtain ⟨rfl, h⟩ := h
    have sa := sndE (tp := tp) a X sc _ c hs h
    refine Snd.of_new (PE.imp (pe_rev2 sa.v) fun σ H QL q => ?_) (fun _ _ => rfl) (fun _ _ _ z => by cases z)
    obtain ⟨H0, σt, Q, r, w, kk⟩ := q
    simp only [wE] at w
    refine ⟨H0, σt, _, r, w, fun u v H1 k1 t1 b1 _ q => ?_⟩
    cases u <;> simp only [revF] at q
    · obtain ⟨a, vs, rfl, sa, ra⟩ := b1.tup
      exact ⟨a, vs, rfl, .inr ⟨sa, new_tup t1 ra.rev q fun u3 v3 H3 k3 t3 n q3 => kk u3 v3 H3 (k1.trans k3) t3 (n.back k1 t1) q3⟩⟩
    · obtain ⟨a, vs, rfl, sa, ra⟩ := b1.lst
      exact ⟨a, vs, rfl, .inl ⟨.inl sa, new_lst t1 ra.rev q fun u3 v3 H3 k3 t3 n q3 => kk u3 v3 H3 (k1.trans k3) t3 (n.back k1 t1) q3⟩⟩
  | .rngS l a b, X, sc, ex, c, hs, h => by
    simp only [chkE] at h
    have core : ∀ (x y : Str) (p p2 pos pos2 : Pos) (es : List Expr) (te : L2.St → Hp → (Int → Int → Hp → Prop) → Prop), x = (if l = true then b1N .lst else b1N .tup) → y = "range" → Γ.bl.contains x = true → gloB sc x = true → PRg X (.Call (.Name y p2) es [] pos2) te →
        (∀ σ H (QL : Int → Int → Hp → Prop), (∃ (H0 : Hp) (σt : TS) (Q : Int → Int → Prop), RS X.K tp H0 σt σ H ∧ (wE G a σt fun x => wE G b σt fun y => ∃ i j, x = .int i ∧ y = .int j ∧ Q i j) ∧ ∀ i j H', Kp tp H H' → Tp tp H' → Q i j → QL i j H') → te σ H QL) → Snd X G Γ tp (.rngS l a b) (.Call (.Name x p) [.Call (.Name y p2) es [] pos2] [] pos) := by
      intro x y p p2 pos pos2 es te e1 e2 e3 e4 he rd
      have fin : ∀ (σ : L2.St) (H : Hp) (QL : VK), nOf X.K G tp (.rngS l a b) σ H QL → te σ H fun i j H1 => RgOk i j ∧ ∀ q, H1 q = none → QL (.ref q) (upd H1 q (if l = true then .lst (rgV i j) else .tup (rgV i j))) := fun σ H QL q => by
        obtain ⟨H0, σt, Q, r, w, kk⟩ := q
        simp only [wE] at w
        refine rd σ H _ ⟨H0, σt, fun i j => (-(2 ^ 62) ≤ i ∧ i < 2 ^ 62 ∧ -(2 ^ 62) ≤ j ∧ j < 2 ^ 62) ∧ (j - i).toNat ≤ sizeLine ∧ Q (if l = true then .lst (rngL i (j - i).toNat) else .tup (rngL i (j - i).toNat)), r, w, fun i j H1 k1 t1 q => ?_⟩
        obtain ⟨⟨h1, h2, h3, h4⟩, h5, q⟩ := q
        have sz : sizeLine = 16777216 := sizeLine_eq
        refine ⟨⟨h1, h2, h3, h4, by omega⟩, ?_⟩
        cases l
        · simp only [Bool.false_eq_true, if_false] at q ⊢
          exact new_tup t1 (rng_rts i j) q fun u3 v3 H3 k3 t3 n q3 => kk u3 v3 H3 (k1.trans k3) t3 (n.back k1 t1) q3
        · simp only [if_true] at q ⊢
          exact new_lst t1 (rng_rts i j) q fun u3 v3 H3 k3 t3 n q3 => kk u3 v3 H3 (k1.trans k3) t3 (n.back k1 t1) q3
      cases l
      · simp only [Bool.false_eq_true, if_false] at e1 fin
        subst e1
        exact Snd.of_new (PE.imp (pe_tupRg c.calm (gl_of hs e4) (c.bl _ (mem_bl e3)) he rfl) fin) (fun _ _ => rfl) (fun _ _ _ z => by cases z)
      · simp only [if_true] at e1 fin
        subst e1
        exact Snd.of_new (PE.imp (pe_listRg c.calm (gl_of hs e4) (c.bl _ (mem_bl e3)) he rfl) fin) (fun _ _ => rfl) (fun _ _ _ z => by cases z)
    split at h
    · rename_i x p y p2 e pos2 pos
      simp only [Bool.and_eq_true, decide_eq_true_eq] at h
      obtain ⟨⟨⟨⟨⟨⟨⟨h1, h2⟩, h3⟩, h4⟩, h5⟩, h6⟩, h7⟩, h8⟩ := h
      subst h2
      obtain rfl := isZ_eq h7
      have sb := sndE (tp := tp) b X sc _ c hs h8
      refine core x _ p p2 pos pos2 [e] _ h1 rfl h3 h5 (prg_1 (gl_of hs h6) (c.bl _ (mem_bl h4)) sb.v (chkE_ns h8 _ _)) fun σ H QL q => ?_
      obtain ⟨H0, σt, Q, r, w, kk⟩ := q
      simp only [wE] at w
      refine ⟨H0, σt, _, r, w, fun u v H1 k1 t1 b1 _ q => ?_⟩
      obtain ⟨i, j, e1, rfl, q⟩ := q
      cases e1
      exact ⟨j, b1.int, kk _ _ H1 k1 t1 q⟩
    · rename_i x p y p2 e e2 pos2 pos
      simp only [Bool.and_eq_true, decide_eq_true_eq] at h
      obtain ⟨⟨⟨⟨⟨⟨⟨h1, h2⟩, h3⟩, h4⟩, h5⟩, h6⟩, h7⟩, h8⟩ := h
      subst h2
      have sa := sndE (tp := tp) a X sc _ c hs h7
      have sb := sndE (tp := tp) b X sc _ c hs h8
      refine core x _ p p2 pos pos2 [e, e2] _ h1 rfl h3 h5 (prg_2 (gl_of hs h6) (c.bl _ (mem_bl h4)) sa.v sb.v (chkE_ns h7 _ _) (chkE_ns h8 _ _) (by rw [chkE_ns h8]; rfl)) fun σ H QL q => ?_
      obtain ⟨H0, σt, Q, r, w, kk⟩ := q
      refine ⟨H0, σt, _, r, w, fun u v H1 k1 t1 b1 _ q => ⟨H0, σt, _, r.mono k1 t1, q, fun u2 v2 H2 k2 t2 b2 _ q2 => ?_⟩⟩
      obtain ⟨i, j, rfl, rfl, q2⟩ := q2
      exact ⟨i, j, b1.int, b2.int, kk _ _ H2 (k1.trans k2) t2 q2⟩
    · cases h
  | .st1 f a, X, sc, ex, c, hs, h => by
    simp only [chkE] at h
    split at h
    case h_2 => cases h
    rename_i x p y p2 e pos2 pos
    simp only [Bool.and_eq_true, Bool.or_eq_true, decide_eq_true_eq] at h
    obtain ⟨⟨⟨⟨⟨⟨⟨hf, h1⟩, h2⟩, h3⟩, h4⟩, h5⟩, h6⟩, h7⟩ := h
    subst h2
    have sa := sndE (tp := tp) a X sc _ c hs h7
    have inner : PE X (.Call (.Name "set" p2) [e] [] pos2) _ := pe_callTy (cr_setI c.calm) (gl_of hs h6) (c.bl _ (mem_bl h4)) boot_set (pa_cons sa.v pa_nil (chkE_ns h7 _ _)) (by decide) (by decide) (chkE_ns h7 _ _) rfl
    rcases hf with rfl | rfl
    · subst h1
      refine Snd.of_new (PE.imp (pe_callB (cr_srtS c.calm) (gl_of hs h5) (c.bl _ (mem_bl h3)) (by decide +kernel) (pa_cons inner pa_nil rfl) (by decide) (by decide) rfl rfl) fun σ H QL q => ?_) (fun _ _ => rfl) (fun _ _ _ z => by cases z)
      obtain ⟨H0, σt, Q, r, w, kk⟩ := q
      simp only [wE] at w
      refine ⟨H0, σt, _, r, w, fun u v H1 k1 t1 b1 _ q => ?_⟩
      obtain ⟨ts, ns, e1, e2, e3, q⟩ := q
      refine show rSetI X.K X.w [v] H1 (fun x H2 => rSrtS X.w [x] H2 QL) from set_read t1 b1 e1 e2 e3 fun p c' hp hc' t2 k2 => ⟨p, _, c', rfl, upd_same, szSet e3 hc', fun ms p3 h1 h2 _ hp3 => ?_⟩
      exact new_lst t2 (RTs.of_ints ms) (q ms h1 fun k => by rw [h2 k, decide_eq_true_eq]) (fun u3 v3 H3 k3 t3 n q3 => kk u3 v3 H3 (k1.trans (k2.trans k3)) t3 (n.back (k1.trans k2) t2) q3) p3 hp3
    · subst h1
      refine Snd.of_new (PE.imp (pe_callB cr_lenS (gl_of hs h5) (c.bl _ (mem_bl h3)) PySem.boot_len (pa_cons inner pa_nil rfl) (by decide) (by decide) rfl rfl) fun σ H QL q => ?_) (fun _ _ => rfl) (fun _ _ _ z => by cases z)
      obtain ⟨H0, σt, Q, r, w, kk⟩ := q
      simp only [wE] at w
      refine ⟨H0, σt, _, r, w, fun u v H1 k1 t1 b1 _ q => ?_⟩
      obtain ⟨ts, ns, e1, e2, e3, q⟩ := q
      refine show rSetI X.K X.w [v] H1 (fun x H2 => rLenS X.w [x] H2 QL) from set_read t1 b1 e1 e2 e3 fun p c' hp hc' t2 k2 => ⟨p, _, c', rfl, upd_same, fun ks h1 h2 h3 => ?_⟩
      have q' := q ks h1 fun k => by rw [h2 k, decide_eq_true_eq]
      rw [h3] at q'
      exact int_val t2 q' (fun u3 v3 H3 k3 t3 n q3 => kk u3 v3 H3 (k1.trans (k2.trans k3)) t3 (n.back (k1.trans k2) t2) q3)
  | .b2 f a b, X, sc, ex, c, hs, h => by
    simp only [chkE] at h
    split at h
    case h_2 => cases h
    rename_i x p e e2 pos
    simp only [Bool.and_eq_true, decide_eq_true_eq] at h
    obtain ⟨⟨⟨⟨h1, h2⟩, h3⟩, h4⟩, h5⟩ := h
    have sa := sndE (tp := tp) a X sc _ c hs h4
    have sb := sndE (tp := tp) b X sc _ c hs h5
    have core := b2_call (tp := tp) (p := p) (pos := pos) c.calm h1 (gl_of hs h3) (c.bl x (mem_bl h2)) (pa_cons sa.v (pa_cons sb.v pa_nil (chkE_ns h5 _ _)) (chkE_ns h4 _ _)) (chkE_ns h4) (by rw [chkE_ns h5]; rfl)
    refine Snd.of_new (PE.imp core fun σ H QL q => ?_) (fun _ _ => rfl) (fun _ _ _ z => by cases z)
    obtain ⟨H0, σt, Q, r, w, kk⟩ := q
    simp only [wE] at w
    exact ⟨H0, σt, _, r, w, fun u v H1 k1 t1 b1 _ q => ⟨H0, σt, _, r.mono k1 t1, q, fun u2 v2 H2 k2 t2 b2 _ q2 => ⟨v, v2, u, u2, Q, rfl, t2, b1.kp k2 t1, b2, q2, fun u3 v3 H3 k3 t3 n q3 => kk u3 v3 H3 (k1.trans (k2.trans k3)) t3 (n.back (k1.trans k2) t2) q3⟩⟩⟩
  | .isi t a, X, sc, ex, c, hs, h => by
    simp only [chkE] at h
    split at h
    case h_2 => cases h
    rename_i x p e y p2 pos
    simp only [Bool.and_eq_true, decide_eq_true_eq] at h
    obtain ⟨⟨⟨⟨⟨⟨rfl, rfl⟩, h3⟩, h4⟩, h5⟩, h6⟩, h7⟩ := h
    have sa := sndE (tp := tp) a X sc _ c hs h7
    have pty : PE X (.Name (tyN t : Str) p2) (tC (.ty (tyN t))) := pe_bltn (gl_of hs h6) (c.bl _ (mem_bl h4)) (u := .type (tyN t)) (by cases t <;> decide +kernel) rfl (by cases t <;> decide) (by cases t <;> decide)
    refine Snd.of_new (PE.imp (pe_callB (p := p) (pos := pos) (c_isi (tp := tp) t) (gl_of hs h5) (c.bl _ (mem_bl h3)) PyProof.Rows.boot_isinstance (pa_cons sa.v (pa_cons pty pa_nil) (chkE_ns h7 _ _)) (by decide) (by decide) (chkE_ns h7 _ _) rfl) fun σ H QL q => ?_) (fun _ _ => rfl) (fun _ _ _ z => by cases z)
    obtain ⟨H0, σt, Q, r, w, kk⟩ := q
    simp only [wE] at w
    exact ⟨H0, σt, _, r, w, fun u v H1 k1 t1 b1 _ q => ⟨v, u, Q, rfl, t1, b1, q, fun u3 v3 H3 k3 t3 n q3 => kk u3 v3 H3 (k1.trans k3) t3 (n.back k1 t1) q3⟩⟩
  | .idx a i, X, sc, ex, c, hs, h => by
    simp only [chkE] at h
    split at h
    case h_2 => cases h
    simp only [Bool.and_eq_true] at h
    have sa := sndE (tp := tp) a X sc _ c hs h.1.2
    have si := sndE (tp := tp) i X sc _ c hs h.2
    refine Snd.of_val (PE.imp (pe_ix (ix_any (tp := tp)) sa.v si.v (plainIx_ok h.1.1)) fun σ H QL q => ?_) rfl (fun _ _ => rfl) (fun _ _ _ z => by cases z)
    obtain ⟨H0, σt, Q, r, w, kk⟩ := q
    simp only [wE] at w
    exact ⟨H0, σt, _, r, w, fun u v H1 k1 t1 b1 _ q => ⟨H0, σt, _, r.mono k1 t1, q, fun u2 v2 H2 k2 t2 b2 _ q2 => ⟨u, u2, Q, t2, b1.kp k2 t1, b2, q2, fun u3 v3 H3 k3 t3 n q3 => kk u3 v3 H3 (k1.trans (k2.trans k3)) t3 (.inl n) (fun _ => n) q3⟩⟩⟩
  | .sli a lo hi, X, sc, ex, c, hs, h => by
    simp only [chkE] at h
    split at h
    case h_2 => cases h
    rename_i v l hh p1 p2
    simp only [Bool.and_eq_true] at h
    have sa := sndE (tp := tp) a X sc _ c hs h.1.1
    have part : ∀ (z : E) (zx : Option Expr), (∀ y, zx = some y → isNon z = false ∧ Snd X G Γ tp z y) → (zx = none → isNon z = true) → PO X zx (fun σ H QL => ∃ H0 σt Q, RS X.K tp H0 σt σ H ∧ wPt (isNon z) (wE G z σt) Q ∧ ∀ o H', Kp tp H H' → Tp tp H' → Q o → QL o H') := fun z zx h1 h2 => by
      cases zx with
      | none =>
        have e := h2 rfl
        refine ⟨fun pins s σ H QL I q => po_none.run pins s σ H QL I ?_⟩
        obtain ⟨H0, σt, Q, r, w, kk⟩ := q
        rw [e] at w
        exact kk none H Kp.refl r.tpo w
      | some y =>
        obtain ⟨e, sy⟩ := h1 y rfl
        refine ⟨fun pins s σ H QL I q => (po_some sy.v).run pins s σ H QL I ?_⟩
        obtain ⟨H0, σt, Q, r, w, kk⟩ := q
        rw [e] at w
        refine ⟨H0, σt, _, r, w, fun u v H1 k1 t1 b1 _ q => ?_⟩
        obtain ⟨i, rfl, q⟩ := q
        exact ⟨i, b1.int, kk _ H1 k1 t1 q⟩
    have pl := part lo l (fun y e => by subst e; have := h.1.2; simp only [Bool.and_eq_true, Bool.not_eq_true'] at this; exact ⟨this.1, sndE lo X sc _ c hs this.2⟩) (fun e => by subst e; exact h.1.2)
    have ph := part hi hh (fun y e => by subst e; have := h.2; simp only [Bool.and_eq_true, Bool.not_eq_true'] at this; exact ⟨this.1, sndE hi X sc _ c hs this.2⟩) (fun e => by subst e; exact h.2)
    refine Snd.of_new (PE.imp (pe_slice (sl_any (tp := tp)) sa.v pl ph) fun σ H QL q => ?_) (fun _ _ => rfl) (fun _ _ _ z => by cases z)
    obtain ⟨H0, σt, Q, r, w, kk⟩ := q
    simp only [wE] at w
    exact ⟨H0, σt, _, r, w, fun u v H1 k1 t1 b1 _ q => ⟨H0, σt, _, r.mono k1 t1, q, fun o2 H2 k2 t2 q2 => ⟨H0, σt, _, (r.mono k1 t1).mono k2 t2, q2, fun o3 H3 k3 t3 q3 => ⟨u, Q, t3, b1.kp (k2.trans k3) t1, q3, fun u4 v4 H4 k4 t4 n q4 => kk u4 v4 H4 (k1.trans ((k2.trans k3).trans k4)) t4 (n.back (k1.trans (k2.trans k3)) t3) q4⟩⟩⟩⟩
  | .comp elt tg src cond vs, X, sc, ex, c, hs, h => by
    simp only [chkE] at h
    split at h
    case h_2 => cases h
    rename_i e t it ifs scope pos
    simp only [Bool.and_eq_true] at h
    obtain ⟨⟨⟨⟨⟨⟨⟨h1, h2⟩, h3⟩, h4⟩, h5⟩, h6⟩, h7⟩, h8⟩ := h
    have cb := fun s H ce fp => c.blk s H scope ce fp
    have pi : PI X t it (jOf X.K G tp src) := by
      rw [Bool.or_eq_true] at h4
      rcases h4 with h4 | h4
      · exact sndR (tp := tp) src X sc it t c hs h4
      · exact pi_any (sndE (tp := tp) src X sc it c hs h4).v
    have co : CompOk X G tp elt tg src cond vs e t it ifs scope := by
      refine ⟨pi, blkOk_by (by rw [hs]; exact h1), fun s H C cl fp => snd_tg (X := X.blk s H scope (compEnvC scope cl C X.env) fp) c.calm c.nd blk_tg tg t h2, fun s H C cl fp => ?_, fun s H C cl fp => ?_, bor_rt h7, fun i hi => ?_, notSet_f (by simpa using h8) _⟩
      · cases ifs with
        | nil =>
          obtain rfl := isTru_eq h5
          exact PTs.imp pts_nil fun σ H QL ⟨H0, σt, Q, r, w, kk⟩ => by
            simp only [wE, tru] at w
            exact kk true H Kp.refl r.tpo w
        | cons x xs =>
          cases xs with
          | nil =>
            simp only [Bool.and_eq_true] at h5
            exact pts_one ((sndE (tp := tp) cond (X.blk s H scope (compEnvC scope cl C X.env) fp) _ x (cb s H _ fp) (by rw [← hs]; rfl) h5.1).t h5.2)
          | cons y ys => simp at h5
      · exact (sndE (tp := tp) elt (X.blk s H scope (compEnvC scope cl C X.env) fp) _ e (cb s H _ fp) (by rw [← hs]; rfl) h6).v
      · rw [List.all_eq_true] at h3
        simpa using h3 i hi
    exact Snd.of_new (pe_comp c.calm c.nd co) (fun _ _ => rfl) (fun _ _ _ z => by cases z)
  | .rng _ _, X, sc, ex, c, hs, h => by simp [chkE] at h
  | .rng3 _ _ _, X, sc, ex, c, hs, h => by simp [chkE] at h
  | .enu _, X, sc, ex, c, hs, h => by simp [chkE] at h
  | .zip _ _, X, sc, ex, c, hs, h => by simp [chkE] at h
  | .items _, X, sc, ex, c, hs, h => by simp [chkE] at h
  | .index _ _, X, sc, ex, c, hs, h => by simp [chkE] at h
  | .count _ _, X, sc, ex, c, hs, h => by simp [chkE] at h
  | .get _ _ _, X, sc, ex, c, hs, h => by simp [chkE] at h
  | .comp2 _ _ _ _ _ _ _ _, X, sc, ex, c, hs, h => by simp [chkE] at h
theorem sndEs {tp : Option (Addr × Addr)} : ∀ (es : List E) (X : Cx) (sc : Scope) (xs : List Expr), CxOk G Γ k X → X.env.scope = sc → chkEs Γ X.N es sc xs = true → PA X xs (aOf X.K G tp es)
  | [], X, sc, xs, c, hs, h => by
    simp only [chkEs] at h
    cases xs with
    | cons => cases h
    | nil =>
      refine PA.imp pa_nil fun σ H QL q => ?_
      obtain ⟨H0, σt, Q, r, w, kk⟩ := q
      simp only [wEs] at w
      exact kk [] [] H Kp.refl r.tpo .nil w
  | e :: es, X, sc, xs, c, hs, h => by
    cases xs with
    | nil => simp only [chkEs] at h; cases h
    | cons x r =>
      simp only [chkEs, Bool.and_eq_true] at h
      refine PA.imp (pa_cons (sndE (tp := tp) e X sc _ c hs h.1.1).v (sndEs (tp := tp) es X sc _ c hs h.2) (chkE_ns h.1.1 _ _)) fun σ H QL q => ?_
      obtain ⟨H0, σt, Q, r, w, kk⟩ := q
      simp only [wEs] at w
      exact ⟨H0, σt, _, r, w, fun u v H1 k1 t1 b1 rt q => ⟨H0, σt, _, r.mono k1 t1, q, fun us vs H2 k2 t2 rs q2 => kk (u :: us) (v :: vs) H2 (k1.trans k2) t2 (.cons (RT.kp k2 t1 _ _ (rt (bor_rt h.1.2))) rs) q2⟩⟩
theorem sndR {tp : Option (Addr × Addr)} : ∀ (e : E) (X : Cx) (sc : Scope) (ex tg : Expr), CxOk G Γ k X → X.env.scope = sc → chkR Γ X.N e sc ex = true → PI X tg ex (jOf X.K G tp e)
  | .rng a b, X, sc, ex, tg, c, hs, h => by
    simp only [chkR] at h
    split at h
    · rename_i x p e pos
      simp only [Bool.and_eq_true, decide_eq_true_eq] at h
      obtain ⟨⟨⟨⟨rfl, h2⟩, h3⟩, h4⟩, h5⟩ := h
      have sb := sndE (tp := tp) b X sc _ c hs h5
      refine PI.imp (pi_range1 (gl_of hs h3) (c.bl _ (mem_bl h2)) (pa_cons sb.v pa_nil (chkE_ns h5 _ _)) (chkE_ns h5 _ _)) fun σ H R q => ?_
      obtain ⟨H0, σt, Q, r, w, kk⟩ := q
      obtain rfl := isZ_eq h4
      simp only [wE] at w
      refine ⟨H0, σt, _, r, w, fun u v H1 k1 t1 b1 _ q => ?_⟩
      obtain ⟨i, j, e1, rfl, hb, hl, q⟩ := q
      cases e1
      obtain rfl := b1.int
      simp only [seqOf, Int.sub_zero] at q hl
      exact ⟨j, rfl, hb.2.2.1, hb.2.2.2, kk _ _ H1 k1 t1 (walk_rng hl) (fun _ => walk_rng hl) q⟩
    · rename_i x p e e2 pos
      simp only [Bool.and_eq_true, decide_eq_true_eq] at h
      obtain ⟨⟨⟨⟨rfl, h2⟩, h3⟩, h4⟩, h5⟩ := h
      have sa := sndE (tp := tp) a X sc _ c hs h4
      have sb := sndE (tp := tp) b X sc _ c hs h5
      refine PI.imp (pi_range2 (gl_of hs h3) (c.bl _ (mem_bl h2)) (pa_cons sa.v (pa_cons sb.v pa_nil (chkE_ns h5 _ _)) (chkE_ns h4 _ _)) (by rw [chkE_ns h4, chkE_ns h5]; rfl) (chkE_ns h5 _ _)) fun σ H R q => ?_
      obtain ⟨H0, σt, Q, r, w, kk⟩ := q
      simp only [wE] at w
      refine ⟨H0, σt, _, r, w, fun u v H1 k1 t1 b1 _ q => ⟨H0, σt, _, r.mono k1 t1, q, fun u2 v2 H2 k2 t2 b2 _ q2 => ?_⟩⟩
      obtain ⟨i, j, rfl, rfl, hb, hl, q⟩ := q2
      obtain rfl := b1.int
      obtain rfl := b2.int
      simp only [seqOf] at q
      exact ⟨i, j, rfl, hb, kk _ _ H2 (k1.trans k2) t2 (walk_rng hl) (fun _ => walk_rng hl) q⟩
    · cases h
  | .var _, X, sc, ex, tg, c, hs, h => by simp [chkR] at h
  | .bor _, X, sc, ex, tg, c, hs, h => by simp [chkR] at h
  | .int _, X, sc, ex, tg, c, hs, h => by simp [chkR] at h
  | .str _, X, sc, ex, tg, c, hs, h => by simp [chkR] at h
  | .bl _, X, sc, ex, tg, c, hs, h => by simp [chkR] at h
  | .non, X, sc, ex, tg, c, hs, h => by simp [chkR] at h
  | .glo _, X, sc, ex, tg, c, hs, h => by simp [chkR] at h
  | .bin _ _ _, X, sc, ex, tg, c, hs, h => by simp [chkR] at h
  | .neg _, X, sc, ex, tg, c, hs, h => by simp [chkR] at h
  | .not _, X, sc, ex, tg, c, hs, h => by simp [chkR] at h
  | .cmp _ _ _, X, sc, ex, tg, c, hs, h => by simp [chkR] at h
  | .chain _ _ _ _ _, X, sc, ex, tg, c, hs, h => by simp [chkR] at h
  | .and _ _, X, sc, ex, tg, c, hs, h => by simp [chkR] at h
  | .or _ _, X, sc, ex, tg, c, hs, h => by simp [chkR] at h
  | .ite _ _ _, X, sc, ex, tg, c, hs, h => by simp [chkR] at h
  | .tup _, X, sc, ex, tg, c, hs, h => by simp [chkR] at h
  | .lst _, X, sc, ex, tg, c, hs, h => by simp [chkR] at h
  | .call _ _, X, sc, ex, tg, c, hs, h => by simp [chkR] at h
  | .b1 _ _, X, sc, ex, tg, c, hs, h => by simp [chkR] at h
  | .st1 _ _, X, sc, ex, tg, c, hs, h => by simp [chkR] at h
  | .dead, X, sc, ex, tg, c, hs, h => by simp [chkR] at h
  | .rngS _ _ _, X, sc, ex, tg, c, hs, h => by simp [chkR] at h
  | .b2 _ _ _, X, sc, ex, tg, c, hs, h => by simp [chkR] at h
  | .isi _ _, X, sc, ex, tg, c, hs, h => by simp [chkR] at h
  | .idx _ _, X, sc, ex, tg, c, hs, h => by simp [chkR] at h
  | .sli _ _ _, X, sc, ex, tg, c, hs, h => by simp [chkR] at h
  | .rev _, X, sc, ex, tg, c, hs, h => by simp [chkR] at h
  | .index _ _, X, sc, ex, tg, c, hs, h => by simp [chkR] at h
  | .count _ _, X, sc, ex, tg, c, hs, h => by simp [chkR] at h
  | .get _ _ _, X, sc, ex, tg, c, hs, h => by simp [chkR] at h
  | .rng3 _ _ _, X, sc, ex, tg, c, hs, h => by simp [chkR] at h
  | .enu _, X, sc, ex, tg, c, hs, h => by simp [chkR] at h
  | .zip _ _, X, sc, ex, tg, c, hs, h => by simp [chkR] at h
  | .items _, X, sc, ex, tg, c, hs, h => by simp [chkR] at h
  | .comp _ _ _ _ _, X, sc, ex, tg, c, hs, h => by simp [chkR] at h
  | .comp2 _ _ _ _ _ _ _ _, X, sc, ex, tg, c, hs, h => by simp [chkR] at h
end
end
end TL

set_option Elab.async false
set_option linter.all false
set_option maxRecDepth 100000
set_option maxHeartbeats 16000000
/-! TLk: statements. -/
namespace TL
open PySem PySem.Spec PyProof.Rows L2

/-! ### the look -/
/-- is a comprehension's name kept on its line -/
def swB (sc : Scope) (y : Str) (l1 l2 : Nat) (inner : Scope) : Bool :=
  (sc.names.lookup y == some .local) && l1 == l2 && !(inner.names.any fun (n, k) => n == y && (k == .local || k == .cell))
def isComp : Expr → Bool
  | .ListComp _ _ _ _ => true
  | .SetComp _ _ _ _ => true
  | .DictComp _ _ _ _ _ => true
  | _ => false
def isTupEx : Expr → Bool
  | .Tuple _ _ _ => true
  | _ => false
/-- the names of a parallel store that is done from the right: none: it is not told -/
def parN (sc : Scope) (ts vs : List Expr) : Option (Option (List Str)) :=
  if !(ts.length == 2 || ts.length == 3) || vs.length != ts.length then some none
  else if vs.any fun | .Starred .. => true | _ => false then some none
  else
    let line := (ts.head?.map (·.pos.line)).getD 0
    let names := ts.filterMap fun
      | .Name id pos => if sc.names.lookup id == some .local && pos.line == line then some id else none
      | _ => none
    if names.length != ts.length || names.eraseDups.length != names.length then some none
    else if vs.all (foldedForSure 8) then some none
    else if vs.all (constantsAlone 8) then none
    else some (some names)
def slOk (N : List Str) (sc : Scope) (i : Nat) (x : Str) : Bool := decide (N[i]? = some x) && visB sc x && dbgB x
mutual
def chkS (Γ : GN) (N : List Str) (fr : Bool) (sc : Scope) : S → Stmt → Bool
  | .asg tg e, st => (match st with
      | .Assign [t] ex pos => chkTg N sc tg t && !isBor e && chkE Γ N e sc ex &&
          (match t with
            | .Name y py => (match ex with | .ListComp _ _ inner p2 => true | .SetComp _ _ _ _ => false | .DictComp _ _ _ _ _ => false | _ => true)
            | .Tuple ts _ _ => (match ex with | .Tuple vs _ _ => (match parN sc ts vs with | some none => true | _ => false) | .List _ _ => false | _ => true)
            | _ => false)
      | _ => false)
  | .asgO i e, st => (match st with
      | .Assign [.Name y py] ex pos => decide (N[i]? = some y) && locB sc y && isNew Γ e && chkE Γ N e sc ex && (match ex with | .SetComp _ _ _ _ => false | .DictComp _ _ _ _ _ => false | _ => true)
      | _ => false)
  | .mov i j, st => (match st with
      | .Assign [.Name y py] (.Name x px) pos => decide (N[i]? = some y) && locB sc y && slOk N sc j x
      | _ => false)
  | .aug i op e, st => (match st with
      | .AugAssign (.Name y py) o ex pos => decide (N[i]? = some y) && locB sc y && opOk op o && chkE Γ N e sc ex
      | _ => false)
  | .app i e, st => (match st with
      | .Expr (.Call (.Attribute (.Name x p) m ap) [ex] [] cp) pos => slOk N sc i x && decide (m = "append") && (ap.endLine == cp.line) && chkE Γ N e sc ex && !isBor e
      | _ => false)
  | .ext i e, st => (match st with
      | .Expr (.Call (.Attribute (.Name x p) m ap) [ex] [] cp) pos => slOk N sc i x && decide (m = "extend") && (ap.endLine == cp.line) && chkE Γ N e sc ex && !isBor e
      | _ => false)
  | .setI i j e, st => (match st with
      | .Assign [.Subscript (.Name x p) jx sp] ex pos => slOk N sc i x && chkE Γ N j sc jx && chkE Γ N e sc ex && !isBor e && plainIx jx && !isComp ex
      | _ => false)
  | .exp e, st => (match st with | .Expr ex pos => chkE Γ N e sc ex && (match ex with | .Call _ _ _ _ => true | _ => false) | _ => false)
  | .ret e, st => (match st with | .Return (some ex) pos => chkE Γ N e sc ex && (if fr then isNew Γ e else !isBor e) | _ => false)
  | .retO i, st => (match st with | .Return (some (.Name x p)) pos => fr && slOk N sc i x | _ => false)
  | .retN, st => (match st with | .Return none pos => !fr | _ => false)
  | .ite c a b, st => (match st with | .If t x y pos => chkE Γ N c sc t && tstOk c && chkSs Γ N fr sc a x && chkSs Γ N fr sc b y | _ => false)
  | .for_ tg src body, st => (match st with
      | .For t it bx [] pos => chkTg N sc tg t && !isBor src && (chkR Γ N src sc it || chkE Γ N src sc it) && !isSet it && chkSs Γ N fr sc body bx
      | _ => false)
  | .whl c body, st => (match st with | .While t bx [] pos => chkE Γ N c sc t && tstOk c && chkSs Γ N fr sc body bx | _ => false)
  | .brk, st => (match st with | .Break _ => true | _ => false)
  | .cnt, st => (match st with | .Continue _ => true | _ => false)
  | .dead, _ => true
  | .pas, st => (match st with | .Pass _ => true | _ => false)
  | .par ts es, st => (match st with
      | .Assign [.Tuple tx _ _] (.Tuple vx _ _) pos => (match ts, tx with
          | [(_, i), (_, j)], [.Name x _, .Name y _] => decide (N[i]? = some x) && decide (N[j]? = some y) && decide (i ≠ j) && decide (sc.names.lookup x = some .local) && decide (sc.names.lookup y = some .local) && decide (parN sc tx vx = some (some [x, y])) && chkPar Γ N sc ts es vx
          | [(_, i), (_, j), (_, l)], [.Name x _, .Name y _, .Name z _] => decide (N[i]? = some x) && decide (N[j]? = some y) && decide (N[l]? = some z) && decide (i ≠ j) && decide (i ≠ l) && decide (j ≠ l) && decide (sc.names.lookup x = some .local) && decide (sc.names.lookup y = some .local) && decide (sc.names.lookup z = some .local) && decide (parN sc tx vx = some (some [x, y, z])) && chkPar Γ N sc ts es vx
          | _, _ => false)
      | _ => false)
  | _, _ => false
def chkSs (Γ : GN) (N : List Str) (fr : Bool) (sc : Scope) : List S → List Stmt → Bool
  | [], xs => xs.isEmpty
  | s :: r, xs => (match s with
      | .frz _ => chkSs Γ N fr sc r xs
      | _ => (match xs with | x :: xr => chkS Γ N fr sc s x && chkSs Γ N fr sc r xr | [] => false))
def chkPar (Γ : GN) (N : List Str) (sc : Scope) : List (Bool × Nat) → List E → List Expr → Bool
  | [], es, xs => es.isEmpty && xs.isEmpty
  | t :: ts, es, xs => (match es, xs with | e :: er, x :: xr => chkE Γ N e sc x && (if t.1 then isNew Γ e else !isBor e) && chkPar Γ N sc ts er xr | _, _ => false)
end

/-! ### readings -/
/-- how what is wanted of trees goes with what is wanted of heaps; Hs: the heap at the start -/
structure Lk (K : PySem.W.Frag) (tp : Option (Addr × Addr)) (fr : Bool) (H0 Hs : Hp) (Dt : En) (D : Ends) : Prop where
  nx : ∀ σt σ H, RS K tp H0 σt σ H → Stn Hs H → Dt.nx σt → D.nx σ H
  bk : ∀ σt σ H, RS K tp H0 σt σ H → Stn Hs H → Dt.bk σt → D.bk σ H
  ct : ∀ σt σ H, RS K tp H0 σt σ H → Stn Hs H → Dt.ct σt → D.ct σ H
  rt : ∀ u v H, Kp tp H0 H → Tp tp H → (if fr = true then RN K tp H0 H u v else RT K tp H u v) → Dt.rt u → D.rt v H
section
variable (K : PySem.W.Frag) (G : Gm) (tp : Option (Addr × Addr)) (fr : Bool)
def sOf (s : S) : L2.TS := fun D σ H => ∃ H0 σt Dt, RS K tp H0 σt σ H ∧ wS G s Dt σt ∧ Lk K tp fr H0 H Dt D
def ssOf (s : List S) : L2.TS := fun D σ H => ∃ H0 σt Dt, RS K tp H0 σt σ H ∧ wSs G s Dt σt ∧ Lk K tp fr H0 H Dt D
end
theorem PS.imp {X : Cx} {st : Stmt} {t t' : L2.TS} (h : PS X st t) (i : ∀ D σ H, t' D σ H → t D σ H) : PS X st t' := ⟨fun pins s σ H D I q => h.run pins s σ H D I (i D σ H q)⟩
theorem PSs.imp {X : Cx} {st : List Stmt} {t t' : L2.TS} (h : PSs X st t) (i : ∀ D σ H, t' D σ H → t D σ H) : PSs X st t' := ⟨fun pins s σ H D I q => h.run pins s σ H D I (i D σ H q)⟩
theorem Stn.trans {H H1 H2 : Hp} (a : Stn H H1) (b : Stn H1 H2) : Stn H H2 := fun p o e n => b p o (a p o e n) n
theorem Stn.refl {H : Hp} : Stn H H := fun _ _ e _ => e
section
variable {K : PySem.W.Frag} {tp : Option (Addr × Addr)} {fr : Bool} {H0 Hs H1 : Hp} {Dt : En} {D : Ends}
theorem Lk.from (l : Lk K tp fr H0 Hs Dt D) (s : Stn Hs H1) : Lk K tp fr H0 H1 Dt D :=
  ⟨fun a b c r s2 q => l.nx a b c r (s.trans s2) q, fun a b c r s2 q => l.bk a b c r (s.trans s2) q, fun a b c r s2 q => l.ct a b c r (s.trans s2) q, l.rt⟩
theorem Lk.seq (l : Lk K tp fr H0 Hs Dt D) {n : TS → Prop} {m : L2.St → Hp → Prop} (h : ∀ σt σ H, RS K tp H0 σt σ H → Stn Hs H → n σt → m σ H) : Lk K tp fr H0 Hs { Dt with nx := n } { D with nx := m } := ⟨h, l.bk, l.ct, l.rt⟩
end

/-- what a body's look leans on -/
structure BodyOk (G : Gm) (Γ : GN) (k : Nat) (X : Cx) (sc : Scope) : Prop where
  c : CxOk G Γ k X
  hs : X.env.scope = sc
  kind : sc.kind = .function
  fn : ∀ x, X.fn x = true
  pass : PassesOwn (model X.prog X.w) X.A X.env X.xe
theorem BodyOk.tg {G : Gm} {Γ : GN} {k : Nat} {X : Cx} {sc : Scope} (b : BodyOk G Γ k X sc) : TgOk X sc where
  loc := fun x h => by rw [b.hs]; exact h
  cell := fun x h => ⟨by rw [b.hs]; exact h, b.fn x⟩
theorem BodyOk.loc {G : Gm} {Γ : GN} {k : Nat} {X : Cx} {sc : Scope} (b : BodyOk G Γ k X sc) {x : Str} (h : locB sc x = true) : Loc X.env.scope x := by
  unfold locB at h
  rw [b.hs]
  split at h
  · exact .inl (by assumption)
  · exact .inr (by assumption)
  · cases h
theorem swB_eq {X : Cx} {sc : Scope} (hs : X.env.scope = sc) (hk : sc.kind = .function) {e : Expr} {gs : List Comprehension} {inner : Scope} {p py : Pos} {y : Str} {l : Nat} :
    swapsWith (.ListComp e gs inner p) (some (.Name y py)) l X.env = pure (swB sc y py.line p.line inner) := by
  have ky : X.env.kindOf y = sc.names.lookup y := by unfold Env.kindOf; rw [hs]
  have hb : X.env.blockKind = .function := by unfold Env.blockKind; rw [hs, hk]; rfl
  unfold swapsWith swB
  simp only [hb, ky, Expr.pos]
  rfl
theorem swN_eq {env : Env} {e : Expr} {t : Expr} {l : Nat} (h : isComp e = false) : swapsWith e (some t) l env = pure false := by
  cases e <;> first | rfl | cases h
theorem swS {env : Env} {e t : Expr} {l : Nat} : swapsWithSole [t] e l env = swapsWith e (some t) l env := by
  unfold swapsWithSole
  rfl
theorem parN_eq {X : Cx} {sc : Scope} (hs : X.env.scope = sc) (hk : sc.kind = .function) {ts vs : List Expr} {k1 k2 : Nat} {p1 p2 : Pos} {r : Option (List Str)} (h : parN sc ts vs = some r) :
    swappedStores [.Tuple ts k1 p1] (.Tuple vs k2 p2) X.env = pure r := by
  have hb : X.env.blockKind = .function := by unfold Env.blockKind; rw [hs, hk]; rfl
  have ky : ∀ y, X.env.kindOf y = sc.names.lookup y := fun y => by unfold Env.kindOf; rw [hs]
  unfold parN at h
  unfold swappedStores
  simp only [hb, ky]
  split at h
  · rename_i c
    cases h
    have c' : (!(ts.length == 2 || ts.length == 3) || vs.length != ts.length || ScopeKind.function != ScopeKind.function) = true := by rw [c]; rfl
    exact if_pos c'
  · rename_i c
    have c' : ¬ (!(ts.length == 2 || ts.length == 3) || vs.length != ts.length || ScopeKind.function != ScopeKind.function) = true := by
      rw [Bool.eq_false_iff.mpr c]; exact Bool.false_ne_true
    refine (if_neg c').trans ?_
    split at h
    · rename_i c2
      cases h
      exact if_pos c2
    · rename_i c2
      refine (if_neg c2).trans ?_
      simp only at h
      split at h
      · rename_i c3
        cases h
        exact if_pos c3
      · rename_i c3
        refine (if_neg c3).trans ?_
        split at h
        · rename_i c4
          cases h
          exact if_pos c4
        · rename_i c4
          refine (if_neg c4).trans ?_
          split at h
          · cases h
          · rename_i c5
            cases h
            exact if_neg c5
end TL

set_option Elab.async false
set_option linter.all false
set_option maxRecDepth 100000
set_option maxHeartbeats 16000000
/-! TLl: each statement that the look takes. -/
namespace TL
open PySem PySem.Spec PyProof.Rows L2
section
variable {X : Cx}
/-- extend by a list that is read -/
theorem mt_extL : MtM X "list.extend" (fun x vs H Q => ∃ l b xs zs, x = .ref l ∧ vs = [.ref b] ∧ H l = some (.lst xs) ∧ Rd H b (.lst zs) ∧ xs.length + zs.length ≤ sizeLine ∧ Q .non (upd H l (.lst (xs ++ zs)))) := by
  intro pins s σ H x vs v us Q I rx rv h
  obtain ⟨l, b, xs, zs, rfl, rfl, hH, hB, hz, q⟩ := h
  cases rx
  obtain ⟨u, rfl, ru⟩ := rv.one
  cases ru
  obtain ⟨z, its, n, r, hl, e⟩ := I.lstM hH
  obtain ⟨z2, its2, n2, r2, hl2, e2⟩ := rd_ok I hB
  have sz : its.toArray.size + its2.toArray.size ≤ sizeLine := by simp only [List.size_toArray]; omega
  have nl : ¬ (!its.toArray.isEmpty && Builtin.List.listTooLong (its.toArray.size + its2.toArray.size)) = true := fun c => by
    rw [notLongL sz, Bool.and_false] at c; cases c
  refine call_meets F.slot_list_extend ⟨_, e, rfl⟩ F.entry_list_extend (F.args_list_extend_2 _ _) (AutoSeq1.list_extend_list_list_0 l its.toArray n b its2.toArray n2 nl (by simp only [List.size_toArray]; omega) (by omega)) ⟨e, e2, ?_⟩
  exact ⟨.non, _, I.lset (its' := its ++ its2) hH e (by simp) (r.append r2) (by simpa using hz), rfl, q⟩
/-- behind a statement a list is locked -/
theorem ps_frz {st : Stmt} {t : L2.TS} (h : PS X st t) : PS X st (fun D σ H => t { D with nx := fun σ' H' => D.nx σ' H' ∨ ∃ p vs, H' p = some (.lst vs) ∧ ∀ od, D.nx σ' (upd H' p (.frz od (.lst vs))) } σ H) := by
  refine ⟨fun pins s σ H D I q => thn (h.run pins s σ H _ I q) fun f s1 hs => ?_⟩
  cases f with
  | next =>
    obtain ⟨σ', H', I', q⟩ := hs
    rcases q with q | ⟨p, vs, hp, q⟩
    · exact ⟨σ', H', I', q⟩
    · obtain ⟨od, I2⟩ := I'.lock hp trivial
      exact ⟨σ', _, I2, q od⟩
  | brk => exact hs
  | cont => exact hs
  | ret u => exact hs
end

section
variable {K : PySem.W.Frag} {G : Gm} {tp : Option (Addr × Addr)} {H0 H H1 : Hp} {σt : TS} {σ : L2.St}
/-- what parallel values are: as: the new ones' places -/
def PR (K : PySem.W.Frag) (tp : Option (Addr × Addr)) (H : Hp) : List (Bool × Nat) → List T → List V → List Addr → Prop
  | [], us, vs, as => us = [] ∧ vs = [] ∧ as = []
  | (true, _) :: r, us, vs, as => ∃ u us' v vs', us = u :: us' ∧ vs = v :: vs' ∧ ((∃ p as' ts ws, as = p :: as' ∧ u = .lst ts ∧ v = .ref p ∧ H p = some (.lst ws) ∧ RTs K tp H ts ws ∧ PR K tp H r us' vs' as') ∨ ((∀ ts, u ≠ .lst ts) ∧ PR K tp H r us' vs' as))
  | (false, _) :: r, us, vs, as => ∃ u us' v vs', us = u :: us' ∧ vs = v :: vs' ∧ RT K tp H u v ∧ PR K tp H r us' vs' as
def pOf (K : PySem.W.Frag) (G : Gm) (tp : Option (Addr × Addr)) (ts : List (Bool × Nat)) (es : List E) : TA := fun σ H QL => ∃ H0 σt Q, RS K tp H0 σt σ H ∧ wEs G es σt Q ∧ ∀ us vs as H', Kp tp H H' → Tp tp H' → PR K tp H' ts us vs as → (∀ p ∈ as, H p = none) → as.Nodup → Q us → QL vs H'
def parStV : List (Bool × Nat) → List V → L2.St → L2.St
  | (_, i) :: r, v :: vs, σ => parStV r vs (σ.set i (some v))
  | _, _, σ => σ
theorem par_store : ∀ (ts : List (Bool × Nat)) (us : List T) (vs : List V) (as : List Addr) (σt : TS) (σ : L2.St) (k : TS → Prop), RS K tp H0 σt σ H → PR K tp H ts us vs as → (∀ p ∈ as, H0 p = none) → (∀ p ∈ as, ∀ (j : Nat) u, σt[j]? = some (.own u) → σ[j]? ≠ some (some (.ref p))) → as.Nodup →
    parSet ts us σt k → ∃ σt', RS K tp H0 σt' (parStV ts vs σ) H ∧ k σt'
  | [], us, vs, as, σt, σ, k, r, h, _, _, _, w => by
    obtain ⟨rfl, rfl, rfl⟩ := h
    simp only [parSet] at w
    exact ⟨σt, r, w⟩
  | (false, i) :: ts, us, vs, as, σt, σ, k, r, h, n, ap, nd, w => by
    obtain ⟨u, us', v, vs', rfl, rfl, h1, h2⟩ := h
    simp only [parSet] at w
    refine par_store ts us' vs' as _ (σ.set i (some v)) k (r.setV h1) h2 n (fun p hp j u' e e2 => ?_) nd w
    rw [List.getElem?_set] at e e2
    by_cases hj : i = j
    · rw [if_pos hj] at e; split at e <;> cases e
    · rw [if_neg hj] at e e2; exact ap p hp j u' e e2
  | (true, i) :: ts, us, vs, as, σt, σ, k, r, h, n, ap, nd, w => by
    obtain ⟨u, us', v, vs', rfl, rfl, h⟩ := h
    rcases h with ⟨p, as', ls, ws, rfl, rfl, rfl, hp, rs, h2⟩ | ⟨h1, _⟩
    · simp only [parSet] at w
      have hn := n p List.mem_cons_self
      refine par_store ts us' vs' as' _ (σ.set i (some (.ref p))) k (r.setO ⟨r.tp0.offN hn, ls, ws, rfl, hp, rs⟩ hn fun j u' hj e => ap p List.mem_cons_self j u' e) h2 (fun q hq => n q (List.mem_cons_of_mem _ hq)) (fun q hq j u' e e2 => ?_) (List.nodup_cons.mp nd).2 w
      rw [List.getElem?_set] at e e2
      by_cases hj : i = j
      · rw [if_pos hj] at e e2
        split at e2
        · cases e2; exact (List.nodup_cons.mp nd).1 hq
        · cases e2
      · rw [if_neg hj] at e e2; exact ap q (List.mem_cons_of_mem _ hq) j u' e e2
    · exfalso
      cases u <;> first | exact h1 _ rfl | simp only [parSet] at w
theorem PR.len : ∀ {ts : List (Bool × Nat)} {us : List T} {vs : List V} {as : List Addr}, PR K tp H ts us vs as → vs.length = ts.length
  | [], _, _, _, h => by obtain ⟨rfl, rfl, rfl⟩ := h; rfl
  | (false, _) :: _, _, _, _, h => by obtain ⟨u, us', v, vs', rfl, rfl, _, h2⟩ := h; simp [PR.len h2]
  | (true, _) :: _, _, _, _, h => by
    obtain ⟨u, us', v, vs', rfl, rfl, h⟩ := h
    rcases h with ⟨p, as', ls, ws, _, _, _, _, _, h2⟩ | ⟨_, h2⟩ <;> simp [PR.len h2]
end
section
variable {G : Gm} {Γ : GN} {k : Nat} {tp : Option (Addr × Addr)}
theorem snd_par : ∀ (ts : List (Bool × Nat)) (es : List E) (X : Cx) (sc : Scope) (xs : List Expr), CxOk G Γ k X → X.env.scope = sc → chkPar Γ X.N sc ts es xs = true → PA X xs (pOf X.K G tp ts es)
  | [], es, X, sc, xs, c, hs, h => by
    simp only [chkPar, Bool.and_eq_true] at h
    cases es <;> cases xs <;> simp at h
    refine PA.imp pa_nil fun σ H QL q => ?_
    obtain ⟨H0, σt, Q, r, w, kk⟩ := q
    simp only [wEs] at w
    exact kk [] [] [] H Kp.refl r.tpo ⟨rfl, rfl, rfl⟩ (fun _ z => by cases z) List.nodup_nil w
  | (b, i) :: ts, es, X, sc, xs, c, hs, h => by
    simp only [chkPar] at h
    split at h
    case h_2 => cases h
    rename_i e er x xr
    simp only [Bool.and_eq_true] at h
    have se := sndE (tp := tp) e X sc x c hs h.1.1
    have sr := snd_par ts er X sc xr c hs h.2
    cases b with
    | true =>
      simp only [if_true] at h
      refine PA.imp (pa_cons (se.n h.1.2) sr (chkE_ns h.1.1 _ _)) fun σ H QL q => ?_
      obtain ⟨H0, σt, Q, r, w, kk⟩ := q
      simp only [wEs] at w
      refine ⟨H0, σt, _, r, w, fun u v H1 k1 t1 n q => ⟨H0, σt, _, r.mono k1 t1, q, fun us vs as H2 k2 t2 pr fr nd q2 => ?_⟩⟩
      have fr0 : ∀ p ∈ as, H p = none := fun p hp => k1.free t1 (fr p hp)
      rcases n with ⟨p, ls, ws, rfl, rfl, h0, hp, rs⟩ | ⟨hn, rt⟩
      · have off : OffT tp p := r.tpo.offN h0
        refine kk (.lst ls :: us) (.ref p :: vs) (p :: as) H2 (k1.trans k2) t2 ⟨_, us, _, vs, rfl, rfl, .inl ⟨p, as, ls, ws, rfl, rfl, rfl, k2 _ _ hp off, RTs.kp k2 t1 _ _ rs, pr⟩⟩ (fun q hq => ?_) (List.nodup_cons.mpr ⟨fun z => ?_, nd⟩) q2
        · rcases List.mem_cons.mp hq with rfl | hq
          · exact h0
          · exact fr0 q hq
        · have := fr p z
          rw [hp] at this; cases this
      · exact kk (u :: us) (v :: vs) as H2 (k1.trans k2) t2 ⟨_, us, _, vs, rfl, rfl, .inr ⟨hn, pr⟩⟩ fr0 nd q2
    | false =>
      have nb : isBor e = false := by simpa using h.1.2
      refine PA.imp (pa_cons se.v sr (chkE_ns h.1.1 _ _)) fun σ H QL q => ?_
      obtain ⟨H0, σt, Q, r, w, kk⟩ := q
      simp only [wEs] at w
      refine ⟨H0, σt, _, r, w, fun u v H1 k1 t1 b1 rt q => ⟨H0, σt, _, r.mono k1 t1, q, fun us vs as H2 k2 t2 pr fr nd q2 => ?_⟩⟩
      exact kk (u :: us) (v :: vs) as H2 (k1.trans k2) t2 ⟨_, us, _, vs, rfl, rfl, RT.kp k2 t1 _ _ (rt nb), pr⟩ (fun p hp => k1.free t1 (fr p hp)) nd q2
end
end TL

set_option Elab.async false
set_option linter.all false
set_option maxRecDepth 100000
set_option maxHeartbeats 16000000
/-! TLm: the look at statements tells the truth. -/
namespace TL
open PySem PySem.Spec PyProof.Rows L2
section
variable {G : Gm} {Γ : GN} {k : Nat} {tp : Option (Addr × Addr)}
theorem src_pi {src : E} {X : Cx} {sc : Scope} {ex tg : Expr} (c : CxOk G Γ k X) (hs : X.env.scope = sc) (h : (chkR Γ X.N src sc ex || chkE Γ X.N src sc ex) = true) : PI X tg ex (jOf X.K G tp src) := by
  rw [Bool.or_eq_true] at h
  rcases h with h | h
  · exact sndR src X sc ex tg c hs h
  · exact pi_any (sndE src X sc ex c hs h).v
theorem compOk_of {elt : E} {tg : Tg} {src cond : E} {vs : List Nat} {X : Cx} {sc : Scope} {e : Expr} {gs : List Comprehension} {scope : Scope} {pos : Pos} (c : CxOk G Γ k X) (hs : X.env.scope = sc) (h : chkE Γ X.N (.comp elt tg src cond vs) sc (.ListComp e gs scope pos) = true) :
    ∃ t it ifs, gs = [⟨t, it, ifs, 0⟩] ∧ CompOk X G tp elt tg src cond vs e t it ifs scope := by
  simp only [chkE] at h
  split at h
  case h_2 => cases h
  rename_i e' t it ifs scope' pos' heq
  cases heq
  simp only [Bool.and_eq_true] at h
  obtain ⟨⟨⟨⟨⟨⟨⟨h1, h2⟩, h3⟩, h4⟩, h5⟩, h6⟩, h7⟩, h8⟩ := h
  have cb := fun s H ce fp => c.blk s H scope ce fp
  refine ⟨t, it, ifs, rfl, src_pi c hs h4, blkOk_by (by rw [hs]; exact h1), fun s H C cl fp => snd_tg (X := X.blk s H scope (compEnvC scope cl C X.env) fp) c.calm c.nd blk_tg tg t h2, fun s H C cl fp => ?_, fun s H C cl fp => ?_, bor_rt h7, fun i hi => ?_, notSet_f (by simpa using h8) _⟩
  · cases ifs with
    | nil =>
      obtain rfl := isTru_eq h5
      refine PTs.imp pts_nil fun σ H QL q => ?_
      obtain ⟨H0, σt, Q, r, w, kk⟩ := q
      simp only [wE, tru] at w
      exact kk true H Kp.refl r.tpo w
    | cons x xs =>
      cases xs with
      | nil =>
        simp only [Bool.and_eq_true] at h5
        exact pts_one ((sndE (tp := tp) cond (X.blk s H scope (compEnvC scope cl C X.env) fp) _ x (cb s H _ fp) (by rw [← hs]; rfl) h5.1).t h5.2)
      | cons y ys => simp at h5
  · exact (sndE (tp := tp) elt (X.blk s H scope (compEnvC scope cl C X.env) fp) _ e (cb s H _ fp) (by rw [← hs]; rfl) h6).v
  · rw [List.all_eq_true] at h3
    simpa using h3 i hi
theorem own_of {H0 H : Hp} {K : PySem.W.Frag} {σt : TS} {σ : L2.St} {i : Nat} {Q : K1} (r : RS K tp H0 σt σ H) (w : slO σt i Q) : ∃ p ts vs, σt[i]? = some (.own (.lst ts)) ∧ σ[i]? = some (some (.ref p)) ∧ OffT tp p ∧ H p = some (.lst vs) ∧ RTs K tp H ts vs ∧ H0 p = none ∧ Q (.lst ts) := by
  obtain ⟨t, e, q⟩ := slO_get w
  obtain ⟨p, e1, ⟨off, ts, vs, rfl, hp, rs⟩, n⟩ := r.own i t e
  exact ⟨p, ts, vs, e, e1, off, hp, rs, n, q⟩
theorem kp_put {H0 H : Hp} {p : Addr} {o : HO} (k : Kp tp H0 H) (n : H0 p = none) : Kp tp H0 (upd H p o) := fun a u ea of => by
  rw [upd_ne fun z => by subst z; rw [n] at ea; cases ea]
  exact k a u ea of
theorem slOk_pe {X : Cx} {sc : Scope} {i : Nat} {x : Str} {p : Pos} (hs : X.env.scope = sc) (h : slOk X.N sc i x = true) : PE X (.Name x p) (tVar i) := by
  unfold slOk at h
  simp only [Bool.and_eq_true, decide_eq_true_eq] at h
  exact pe_var h.1.1 (by rw [hs]; exact visB_vis h.1.2) (dbgB_1 h.2) (dbgB_2 h.2)
theorem par_asg {X : Cx} {ts : List (Bool × Nat)} {es : List E} {fr : Bool} {D : Ends} {σ : L2.St} {H : Hp} {QL : List V → Hp → Prop} (q : sOf X.K G tp fr (.par ts es) D σ H)
    (h : ∀ vs H1, vs.length = ts.length → D.nx (parStV ts vs σ) H1 → QL vs H1) : pOf X.K G tp ts es σ H QL := by
  obtain ⟨H0, σt, Dt, r, w, l⟩ := q
  simp only [wS] at w
  refine ⟨H0, σt, _, r, w, fun us vs as H1 k1 t1 pr fr nd q => ?_⟩
  have r1 := r.mono k1 t1
  have n0 : ∀ p ∈ as, H0 p = none := fun p hp => r.kp.free r.tpo (fr p hp)
  obtain ⟨σt', r2, q2⟩ := par_store ts us vs as σt σ Dt.nx r1 pr n0 (fun p hp j u e e2 => by
    obtain ⟨p', e3, ⟨_, ts', vs', _, e4, _⟩, _⟩ := r.own j u e
    rw [e2] at e3; cases e3
    rw [fr p hp] at e4; cases e4) nd q
  exact h vs H1 pr.len (l.nx _ _ _ r2 (k1.stn r.tpo) q2)
mutual
theorem sndS {fr : Bool} : ∀ (s : S) (X : Cx) (sc : Scope) (st : Stmt), BodyOk G Γ k X sc → chkS Γ X.N fr sc s st = true → PS X st (sOf X.K G tp fr s)
  | .asg tg e, X, sc, st, b, h => by
    simp only [chkS] at h
    split at h
    case h_2 => cases h
    rename_i t ex pos
    simp only [Bool.and_eq_true] at h
    obtain ⟨⟨⟨h1, h2⟩, h3⟩, h4⟩ := h
    have nb := bor_rt h2
    have se := sndE (tp := tp) e X sc ex b.c b.hs h3
    have pg := snd_tg (tp := tp) b.c.calm b.c.nd b.tg tg t h1
    have gen : swapsWithSole [t] ex pos.line X.env = pure false → swappedStores [t] ex X.env = pure none → (assignEach [t] X.env).map (·.2) = [assign t X.env] → PS X (.Assign [t] ex pos) (sOf X.K G tp fr (.asg tg e)) := fun g1 g2 g3 => by
      refine PS.imp (ps_asg se.v pg g1 g2 g3) fun D σ H q => ?_
      obtain ⟨H0, σt, Dt, r, w, l⟩ := q
      simp only [wS] at w
      exact ⟨H0, σt, _, r, w, fun u v H1 k1 t1 b1 rt q => ⟨H0, σt, u, _, r.mono k1 t1, rt nb, q, fun σt' σ' r' _ q' => l.nx _ _ _ r' (k1.stn r.tpo) q'⟩⟩
    split at h4
    · rename_i y py
      cases hc : isComp ex with
      | false => exact gen (swS.trans (swN_eq hc)) rfl rfl
      | true =>
        cases ex <;> simp only [isComp] at hc <;> try (cases hc; done)
        case ListComp ee gs inner p2 =>
          cases hw : swB sc y py.line p2.line inner with
          | false => exact gen (by rw [swS, swB_eq b.hs b.kind, hw]) rfl rfl
          | true =>
            cases e <;> simp only [chkE] at h3 <;> try (cases h3; done)
            case comp elt tg' src cond vs =>
              obtain ⟨t', it, ifs, rfl, co⟩ := compOk_of (tp := tp) (pos := p2) b.c b.hs (show chkE Γ X.N (.comp elt tg' src cond vs) sc (.ListComp ee gs inner p2) = true by simpa only [chkE] using h3)
              cases tg with
              | tp ts => simp [chkTg] at h1
              | nm i =>
                simp only [chkTg, Bool.and_eq_true, decide_eq_true_eq] at h1
                have hyl : X.env.scope.names.lookup y = some .local := by
                  unfold swB at hw
                  simp only [Bool.and_eq_true, beq_iff_eq] at hw
                  rw [b.hs]; exact hw.1.1
                refine PS.imp (ps_frz (ps_comp (pos := p2) (spos := pos) (py := py) b.c.calm b.c.nd co h1.1 hyl (by rw [swB_eq b.hs b.kind, hw]))) fun D σ H q => ?_
                obtain ⟨H0, σt, Dt, r, w, l⟩ := q
                simp only [wS] at w
                refine ⟨H0, σt, _, r, w, fun u v H1 k1 t1 n q => ?_⟩
                simp only [asg] at q
                rcases n with ⟨p, ls, ws, rfl, rfl, h0, hp, rs⟩ | ⟨hn, rt⟩
                · refine .inr ⟨p, ws, hp, fun od => ?_⟩
                  have off : OffT tp p := r.tpo.offN h0
                  have k2 : Kp tp H (upd H1 p (.frz od (.lst ws))) := kp_put k1 h0
                  have rt : RT X.K tp (upd H1 p (.frz od (.lst ws))) (.lst ls) (.ref p) := RT.lst_i ⟨od, upd_same⟩ (RTs.stn (Stn.upd hp) _ _ rs)
                  exact l.nx _ _ _ ((r.mono k2 (t1.updOff off)).setV rt) (k2.stn r.tpo) q
                · exact .inl (l.nx _ _ _ ((r.mono k1 t1).setV rt) (k1.stn r.tpo) q)
        case SetComp => cases h4
        case DictComp => cases h4
    · rename_i ts kk pp
      cases hc : isTupEx ex with
      | false =>
        refine gen (by cases ex <;> rfl) ?_ rfl
        cases ex <;> first | rfl | cases hc | cases h4
      | true =>
        cases ex <;> simp only [isTupEx] at hc <;> try (cases hc; done)
        rename_i vs k2 p2
        simp only at h4
        split at h4
        · rename_i hp
          exact gen rfl (parN_eq b.hs b.kind hp) rfl
        · cases h4
    · cases h4
  | .asgO i e, X, sc, st, b, h => by
    simp only [chkS] at h
    split at h
    case h_2 => cases h
    rename_i y py ex pos
    simp only [Bool.and_eq_true, decide_eq_true_eq] at h
    obtain ⟨⟨⟨⟨h1, h2⟩, h3⟩, h4⟩, h5⟩ := h
    have se := sndE (tp := tp) e X sc ex b.c b.hs h4
    have rd : ∀ D σ H, sOf X.K G tp fr (.asgO i e) D σ H → tAsg (nOf X.K G tp e) (gName i) D σ H := fun D σ H q => by
      obtain ⟨H0, σt, Dt, r, w, l⟩ := q
      simp only [wS] at w
      refine ⟨H0, σt, _, r, w, fun u v H1 k1 t1 n q => ?_⟩
      obtain ⟨ls, rfl, q⟩ := q
      rcases n with ⟨p, ls', ws, e1, rfl, h0, hp, rs⟩ | ⟨hn, _⟩
      · cases e1
        have n0 : H0 p = none := r.kp.free r.tpo h0
        refine l.nx _ _ _ ((r.mono k1 t1).setO ⟨r.tpo.offN h0, ls, ws, rfl, hp, rs⟩ n0 fun j u _ e e2 => ?_) (k1.stn r.tpo) q
        obtain ⟨p', e3, ⟨_, ts', vs', _, e4, _⟩, _⟩ := r.own j u e
        rw [e2] at e3; cases e3
        rw [h0] at e4; cases e4
      · exact absurd rfl (hn ls)
    cases hc : isComp ex with
    | false => exact PS.imp (ps_set b.c.nd h1 (b.loc h2) (se.n h3) (swN_eq hc) (.inl (b.fn y))) rd
    | true =>
      cases ex <;> simp only [isComp] at hc <;> try (cases hc; done)
      case ListComp ee gs inner p2 =>
        cases hw : swB sc y py.line p2.line inner with
        | false => exact PS.imp (ps_set b.c.nd h1 (b.loc h2) (se.n h3) (by rw [swB_eq b.hs b.kind, hw]) (.inl (b.fn y))) rd
        | true =>
          cases e <;> simp only [chkE] at h4 <;> try (cases h4; done)
          case comp elt tg' src cond vs =>
            obtain ⟨t', it, ifs, rfl, co⟩ := compOk_of (tp := tp) (pos := p2) b.c b.hs (show chkE Γ X.N (.comp elt tg' src cond vs) sc (.ListComp ee gs inner p2) = true by simpa only [chkE] using h4)
            have hyl : X.env.scope.names.lookup y = some .local := by
              unfold swB at hw
              simp only [Bool.and_eq_true, beq_iff_eq] at hw
              rw [b.hs]; exact hw.1.1
            exact PS.imp (ps_comp (pos := p2) (spos := pos) (py := py) b.c.calm b.c.nd co h1 hyl (by rw [swB_eq b.hs b.kind, hw])) rd
      case SetComp => cases h5
      case DictComp => cases h5
  | .par ts es, X, sc, st, b, h => by
    simp only [chkS] at h
    split at h
    case h_2 => cases h
    rename_i tx k1 p1 vx k2 p2 pos
    split at h
    · rename_i b1 i b2 j x px y py
      simp only [Bool.and_eq_true, decide_eq_true_eq] at h
      obtain ⟨⟨⟨⟨⟨⟨h1, h2⟩, h3⟩, h4⟩, h5⟩, h6⟩, h7⟩ := h
      have pa := snd_par (tp := tp) _ es X sc vx b.c b.hs h7
      match vx, h6, pa with
      | [], h6, pa => exact absurd h6 (by simp [parN])
      | [v1], h6, pa => exact absurd h6 (by simp [parN])
      | [v1, v2], h6, pa =>
        refine PS.imp (ps_par b.c.calm b.c.nd h1 h2 h3 (by rw [b.hs]; exact h4) (by rw [b.hs]; exact h5) pa (parN_eq b.hs b.kind h6) rfl) fun D σ H q => ?_
        refine par_asg q fun vs H1 hl q => ?_
        match vs, hl, q with
        | [v, w], _, q => exact ⟨v, w, rfl, q⟩
      | v1 :: v2 :: v3 :: vr, h6, pa => exact absurd h6 (by simp [parN])
    · rename_i b1 i b2 j b3 l x px y py z pz
      simp only [Bool.and_eq_true, decide_eq_true_eq] at h
      obtain ⟨⟨⟨⟨⟨⟨⟨⟨⟨⟨h1, h2⟩, h3⟩, h4⟩, h5⟩, h6⟩, h7⟩, h8⟩, h9⟩, h10⟩, h11⟩ := h
      have pa := snd_par (tp := tp) _ es X sc vx b.c b.hs h11
      match vx, h10, pa with
      | [], h6, pa => exact absurd h6 (by simp [parN])
      | [v1], h6, pa => exact absurd h6 (by simp [parN])
      | [v1, v2], h6, pa => exact absurd h6 (by simp [parN])
      | [v1, v2, v3], h10, pa =>
        refine PS.imp (ps_par3 b.c.calm b.c.nd h1 h2 h3 h4 h5 h6 (by rw [b.hs]; exact h7) (by rw [b.hs]; exact h8) (by rw [b.hs]; exact h9) pa (parN_eq b.hs b.kind h10) rfl) fun D σ H q => ?_
        refine par_asg q fun vs H1 hl q => ?_
        match vs, hl, q with
        | [v, w, z], _, q => exact ⟨v, w, z, rfl, q⟩
      | v1 :: v2 :: v3 :: v4 :: vr, h6, pa => exact absurd h6 (by simp [parN])
    · cases h
  | .mov i j, X, sc, st, b, h => by
    simp only [chkS] at h
    split at h
    case h_2 => cases h
    rename_i y py x px pos
    simp only [Bool.and_eq_true, decide_eq_true_eq] at h
    refine PS.imp (ps_set b.c.nd h.1.1 (b.loc h.1.2) (slOk_pe b.hs h.2) rfl (.inl (b.fn y))) fun D σ H q => ?_
    obtain ⟨H0, σt, Dt, r, w, l⟩ := q
    simp only [wS] at w
    obtain ⟨p, ts, vs, e, e1, off, hp, rs, n, q⟩ := own_of r w
    refine ⟨.ref p, e1, l.nx _ _ _ (r.forget.setO ⟨off, ts, vs, rfl, hp, rs⟩ n fun a u ha ea e2 => ?_) Stn.refl q⟩
    rw [List.getElem?_set] at ea
    by_cases hj : j = a
    · rw [if_pos hj] at ea; split at ea <;> cases ea
    · rw [if_neg hj] at ea
      exact hj (r.inj j a _ u p e ea e1 e2)
  | .aug i op e, X, sc, st, b, h => by
    simp only [chkS] at h
    split at h
    case h_2 => cases h
    rename_i y py o ex pos
    simp only [Bool.and_eq_true, decide_eq_true_eq] at h
    obtain ⟨⟨⟨h1, h2⟩, h3⟩, h4⟩ := h
    obtain rfl := opOk_eq h3
    have se := sndE (tp := tp) e X sc ex b.c b.hs h4
    have ip : PIp X (toOp op) (fun x y H QL => ∃ tx ty Q, Tp tp H ∧ RB X.K tp H tx x ∧ RB X.K tp H ty y ∧ augF op tx ty Q ∧ ∀ u v, RT X.K tp H u v → Q u → QL v H) := by
      intro pins s σ H x y v u QL I rx ry h
      obtain ⟨tx, ty, Q, t, bx, b_y, hf, kk⟩ := h
      cases op <;> cases tx <;> cases ty <;> simp only [augF] at hf
      · rename_i i j
        obtain rfl := bx.int
        obtain rfl := b_y.int
        exact iop_add pins s σ H _ _ v u QL I rx ry ⟨i, j, rfl, rfl, kk _ _ (RT.int_i _) hf⟩
      · rename_i i j
        obtain rfl := bx.int
        obtain rfl := b_y.int
        exact iop_sub pins s σ H _ _ v u QL I rx ry ⟨i, j, rfl, rfl, kk _ _ (RT.int_i _) hf⟩
      · rename_i i j
        obtain rfl := bx.int
        obtain rfl := b_y.int
        exact iop_mul pins s σ H _ _ v u QL I rx ry ⟨i, j, rfl, rfl, hf.1, kk _ _ (RT.int_i _) hf.2⟩
    refine PS.imp (ps_aug b.c.nd h1 (b.loc h2) se.v ip (.inl (b.fn y))) fun D σ H q => ?_
    obtain ⟨H0, σt, Dt, r, w, l⟩ := q
    simp only [wS] at w
    obtain ⟨x, e, w⟩ := slV_get w
    obtain ⟨v, e1, rt⟩ := r.val i x e
    exact ⟨v, e1, H0, σt, _, r, w, fun u2 v2 H1 k1 t1 b1 _ q => ⟨x, u2, _, t1, .inl (RT.kp k1 r.tpo _ _ rt), b1, q, fun u3 v3 rt3 q3 => l.nx _ _ _ ((r.mono k1 t1).setV rt3) (k1.stn r.tpo) q3⟩⟩
  | .setI i j e, X, sc, st, b, h => by
    simp only [chkS] at h
    split at h
    case h_2 => cases h
    rename_i x px jx sp ex pos
    simp only [Bool.and_eq_true, Bool.not_eq_true'] at h
    obtain ⟨⟨⟨⟨⟨h1, h2⟩, h3⟩, h4⟩, h5⟩, h6⟩ := h
    have se := sndE (tp := tp) e X sc ex b.c b.hs h3
    have sj := sndE (tp := tp) j X sc jx b.c b.hs h2
    refine PS.imp (ps_asg se.v (pg_sub (slOk_pe (p := px) b.hs h1) sj.v set_list (by intro v; cases jx <;> first | rfl | cases h5)) (swS.trans (swN_eq h6)) (by cases ex <;> rfl) rfl) fun D σ H q => ?_
    obtain ⟨H0, σt, Dt, r, w, l⟩ := q
    simp only [wS] at w
    refine ⟨H0, σt, _, r, w, fun u v H1 k1 t1 b1 rt q => ?_⟩
    have r1 := r.mono k1 t1
    obtain ⟨p, ts, vs, e0, e1, off, hp, rs, n, q⟩ := own_of r1 q
    obtain ⟨ts', et, q⟩ := q
    cases et
    refine ⟨.ref p, e1, H0, σt, _, r1, q, fun u2 v2 H2 k2 t2 b2 _ q2 => ?_⟩
    obtain ⟨a, c, rfl, hx, q2⟩ := q2
    obtain rfl := b2.int
    have hp2 : H2 p = some (.lst vs) := k2 _ _ hp off
    have rs2 := RTs.kp k2 t1 _ _ rs
    refine ⟨p, vs, a, c, rfl, rfl, hp2, by rw [← rs.len]; exact hx, ?_⟩
    exact l.nx _ _ _ ((r1.mono k2 t2).put e0 e1 ⟨off, ts, vs, rfl, hp2, rs2⟩ n (rs2.set c (RT.kp k2 t1 _ _ (rt h4)))) (((k1.trans k2).stn r.tpo).trans (Stn.upd hp2)) q2
  | .app i e, X, sc, st, b, h => by
    simp only [chkS] at h
    split at h
    case h_2 => cases h
    rename_i x px m ap ex cp pos
    simp only [Bool.and_eq_true, decide_eq_true_eq] at h
    obtain ⟨⟨⟨⟨h1, rfl⟩, h3⟩, h4⟩, h5⟩ := h
    have se := sndE (tp := tp) e X sc ex b.c b.hs h4
    have ns := chkE_ns h4
    refine PS.imp (ps_expr (pe_bm (apos := ap) (cpos := cp) PySem.F.plainAttrs_list PySem.F.slot_list_append PySem.F.type_list_append mt_append (slOk_pe (p := px) b.hs h1) (pa_cons se.v pa_nil (ns _ _)) rfl (by rw [ns]; rfl) h3 (ns _ _) rfl)) fun D σ H q => ?_
    obtain ⟨H0, σt, Dt, r, w, l⟩ := q
    simp only [wS] at w
    obtain ⟨p, ts, vs, e0, e1, off, hp, rs, n, q⟩ := own_of r w
    obtain ⟨ts', et, q⟩ := q
    cases et
    refine ⟨.ref p, e1, .inl ⟨rfl, vs, .inl (.inl hp)⟩, H0, σt, _, r, q, fun u v H1 k1 t1 b1 rt q => ?_⟩
    have hp1 : H1 p = some (.lst vs) := k1 _ _ hp off
    have rs1 := RTs.kp k1 r.tpo _ _ rs
    refine ⟨p, vs, v, rfl, rfl, hp1, by rw [← rs.len]; exact q.1, ?_⟩
    exact l.nx _ _ _ ((r.mono k1 t1).put e0 e1 ⟨off, ts, vs, rfl, hp1, rs1⟩ n (rs1.app (.cons (rt (bor_rt h5)) .nil))) ((k1.stn r.tpo).trans (Stn.upd hp1)) q.2
  | .ext i e, X, sc, st, b, h => by
    simp only [chkS] at h
    split at h
    case h_2 => cases h
    rename_i x px m ap ex cp pos
    simp only [Bool.and_eq_true, decide_eq_true_eq] at h
    obtain ⟨⟨⟨⟨h1, rfl⟩, h3⟩, h4⟩, h5⟩ := h
    have se := sndE (tp := tp) e X sc ex b.c b.hs h4
    have ns := chkE_ns h4
    refine PS.imp (ps_expr (pe_bm (apos := ap) (cpos := cp) PySem.F.plainAttrs_list PySem.F.slot_list_extend PySem.F.type_list_extend mt_extL (slOk_pe (p := px) b.hs h1) (pa_cons se.v pa_nil (ns _ _)) rfl (by rw [ns]; rfl) h3 (ns _ _) rfl)) fun D σ H q => ?_
    obtain ⟨H0, σt, Dt, r, w, l⟩ := q
    simp only [wS] at w
    obtain ⟨p, ts, vs, e0, e1, off, hp, rs, n, q⟩ := own_of r w
    obtain ⟨ts', et, q⟩ := q
    cases et
    refine ⟨.ref p, e1, .inl ⟨rfl, vs, .inl (.inl hp)⟩, H0, σt, _, r, q, fun u v H1 k1 t1 b1 rt q => ?_⟩
    obtain ⟨us, rfl, hl, q⟩ := q
    obtain ⟨a, ws, rfl, sa, ra⟩ := b1.lst
    have hp1 : H1 p = some (.lst vs) := k1 _ _ hp off
    have rs1 := RTs.kp k1 r.tpo _ _ rs
    refine ⟨p, a, vs, ws, rfl, rfl, hp1, sa, by rw [← rs.len, ← ra.len]; exact hl, ?_⟩
    exact l.nx _ _ _ ((r.mono k1 t1).put e0 e1 ⟨off, ts, vs, rfl, hp1, rs1⟩ n (rs1.app ra)) ((k1.stn r.tpo).trans (Stn.upd hp1)) q
  | .exp e, X, sc, st, b, h => by
    simp only [chkS] at h
    split at h
    case h_2 => cases h
    rename_i ex pos
    simp only [Bool.and_eq_true] at h
    have se := sndE (tp := tp) e X sc ex b.c b.hs h.1
    have h2 := h.2
    cases ex <;> simp only at h2 <;> try (cases h2; done)
    refine PS.imp (ps_expr se.v) fun D σ H q => ?_
    obtain ⟨H0, σt, Dt, r, w, l⟩ := q
    simp only [wS] at w
    exact ⟨H0, σt, _, r, w, fun u v H1 k1 t1 b1 rt q => l.nx _ _ _ (r.mono k1 t1) (k1.stn r.tpo) q⟩
  | .ret e, X, sc, st, b, h => by
    simp only [chkS] at h
    split at h
    case h_2 => cases h
    rename_i ex pos
    simp only [Bool.and_eq_true] at h
    have se := sndE (tp := tp) e X sc ex b.c b.hs h.1
    cases fr with
    | true =>
      simp only [if_true] at h
      refine PS.imp (ps_ret (se.n h.2)) fun D σ H q => ?_
      obtain ⟨H0, σt, Dt, r, w, l⟩ := q
      simp only [wS] at w
      exact ⟨H0, σt, _, r, w, fun u v H1 k1 t1 n q => l.rt u v H1 (r.kp.trans k1) t1 (by simpa using n.back r.kp r.tpo) q⟩
    | false =>
      have nb : isBor e = false := by simpa using h.2
      refine PS.imp (ps_ret se.v) fun D σ H q => ?_
      obtain ⟨H0, σt, Dt, r, w, l⟩ := q
      simp only [wS] at w
      exact ⟨H0, σt, _, r, w, fun u v H1 k1 t1 b1 rt q => l.rt u v H1 (r.kp.trans k1) t1 (by simpa using rt nb) q⟩
  | .retO i, X, sc, st, b, h => by
    simp only [chkS] at h
    split at h
    case h_2 => cases h
    rename_i x px pos
    simp only [Bool.and_eq_true] at h
    obtain ⟨rfl, h⟩ := h
    refine PS.imp (ps_ret (slOk_pe b.hs h)) fun D σ H q => ?_
    obtain ⟨H0, σt, Dt, r, w, l⟩ := q
    simp only [wS] at w
    obtain ⟨p, ts, vs, e0, e1, off, hp, rs, n, q⟩ := own_of r w
    exact ⟨.ref p, e1, l.rt _ _ H r.kp r.tpo (by simpa using RN.lst n hp rs) q⟩
  | .retN, X, sc, st, b, h => by
    simp only [chkS] at h
    split at h
    case h_2 => cases h
    have hf : fr = false := by simpa using h
    subst hf
    refine PS.imp ps_retN fun D σ H q => ?_
    obtain ⟨H0, σt, Dt, r, w, l⟩ := q
    simp only [wS] at w
    exact l.rt _ _ H r.kp r.tpo (by simpa using RT.non_i) w
  | .ite c x y, X, sc, st, b, h => by
    simp only [chkS] at h
    split at h
    case h_2 => cases h
    rename_i t xs ys pos
    simp only [Bool.and_eq_true] at h
    have sc' := sndE (tp := tp) c X sc t b.c b.hs h.1.1.1
    refine PS.imp (ps_if (sc'.t h.1.1.2) (sndSs x X sc xs b h.1.2) (sndSs y X sc ys b h.2)) fun D σ H q => ?_
    obtain ⟨H0, σt, Dt, r, w, l⟩ := q
    simp only [wS] at w
    refine ⟨H0, σt, _, r, w, fun d H1 k1 t1 q => ?_⟩
    cases d with
    | true => exact ⟨H0, σt, Dt, r.mono k1 t1, q, l.from (k1.stn r.tpo)⟩
    | false => exact ⟨H0, σt, Dt, r.mono k1 t1, q, l.from (k1.stn r.tpo)⟩
  | .for_ tg src body, X, sc, st, b, h => by
    simp only [chkS] at h
    split at h
    case h_2 => cases h
    rename_i t it bx pos
    simp only [Bool.and_eq_true, Bool.not_eq_true'] at h
    obtain ⟨⟨⟨⟨h1, h2⟩, h3⟩, h4⟩, h5⟩ := h
    refine PS.imp (ps_for b.pass b.c.calm (src_pi (tp := tp) b.c b.hs h3) (snd_tg (tp := tp) b.c.calm b.c.nd b.tg tg t h1) (sndSs body X sc bx b h5) (notSet_f h4 _)) fun D σ H q => ?_
    obtain ⟨H0, σt, Dt, r, w, l⟩ := q
    simp only [wS] at w
    refine ⟨H0, σt, _, r, w, fun items J H1 k1 t1 _ wk q => ?_⟩
    replace wk := wk h2
    refine ⟨fun i m σ' Hc => i ≤ items.length ∧ m = items.length - i ∧ Stn H1 Hc ∧ ∃ σt', RS X.K tp H0 σt' σ' Hc ∧ wFor (fun D' σ' => wSs G body D' σ') tg Dt (items.drop i) σt',
      ⟨items.length, Nat.zero_le _, by simp, Stn.refl, σt, r.mono k1 t1, by rw [List.drop_zero]; exact q⟩, ?_⟩
    rintro i m σ' Hc ⟨hi, rfl, sn, σt', r', wf⟩
    have s0 : Stn H Hc := (k1.stn r.tpo).trans sn
    by_cases hlt : i < items.length
    · right
      refine ⟨wk.goes i Hc sn r'.tpo hlt, fun σ2 Hn => i + 1 ≤ items.length ∧ Stn H1 Hn ∧ ∃ σt2, RS X.K tp H0 σt2 σ2 Hn ∧ wFor (fun D' σ' => wSs G body D' σ') tg Dt (items.drop (i + 1)) σt2,
        fun σ2 Hn ⟨a1, a2⟩ => ⟨items.length - (i + 1), by omega, a1, rfl, a2⟩, fun v H' y => ?_⟩
      obtain ⟨k2, t2, x, ex, rx⟩ := wk.yields i Hc v H' sn r'.tpo hlt y
      rw [List.drop_eq_getElem_cons hlt] at wf
      have ex' : items[i] = x := by rw [List.getElem?_eq_getElem hlt] at ex; exact Option.some.inj ex
      rw [ex', wFor] at wf
      refine ⟨H0, σt', x, _, r'.mono k2 t2, rx, wf, fun σt2 σ2 r2 _ q2 => ⟨H0, σt2, _, r2, q2, ?_⟩⟩
      have s1 : Stn H1 H' := sn.trans (k2.stn r'.tpo)
      have s2 : Stn H H' := s0.trans (k2.stn r'.tpo)
      exact ⟨fun a c Hd rd sd q => ⟨hlt, s1.trans sd, a, rd, q⟩, fun a c Hd rd sd q => l.nx _ _ _ rd (s2.trans sd) q, fun a c Hd rd sd q => ⟨hlt, s1.trans sd, a, rd, q⟩, l.rt⟩
    · left
      have e : i = items.length := by omega
      subst e
      rw [List.drop_length, wFor] at wf
      exact ⟨wk.stops Hc sn r'.tpo, l.nx _ _ _ r' s0 wf⟩
  | .whl c body, X, sc, st, b, h => by
    simp only [chkS] at h
    split at h
    case h_2 => cases h
    rename_i t bx pos
    simp only [Bool.and_eq_true] at h
    have sc' := sndE (tp := tp) c X sc t b.c b.hs h.1.1
    refine PS.imp (ps_while b.pass (sc'.t h.1.2) (sndSs body X sc bx b h.2)) fun D σ H q => ?_
    obtain ⟨H0, σt, Dt, r, w, l⟩ := q
    simp only [wS] at w
    obtain ⟨I, ⟨n0, i0⟩, step⟩ := w
    refine ⟨fun m σ' Hc => Stn H Hc ∧ ∃ σt', RS X.K tp H0 σt' σ' Hc ∧ I m σt', ⟨n0, Stn.refl, σt, r, i0⟩, ?_⟩
    rintro m σ' Hc ⟨sn, σt', r', im⟩
    refine ⟨H0, σt', _, r', step m σt' im, fun d H1 k1 t1 q => ?_⟩
    have s1 : Stn H H1 := sn.trans (k1.stn r'.tpo)
    cases d with
    | true =>
      refine ⟨fun σ2 H2 => ∃ m', m' < m ∧ Stn H H2 ∧ ∃ σt2, RS X.K tp H0 σt2 σ2 H2 ∧ I m' σt2, fun σ2 H2 ⟨m', a1, a2⟩ => ⟨m', a1, a2⟩, H0, σt', _, r'.mono k1 t1, q, ?_⟩
      exact ⟨fun a e Hd rd sd ⟨m', a1, a2⟩ => ⟨m', a1, s1.trans sd, a, rd, a2⟩, fun a e Hd rd sd q => l.nx _ _ _ rd (s1.trans sd) q, fun a e Hd rd sd ⟨m', a1, a2⟩ => ⟨m', a1, s1.trans sd, a, rd, a2⟩, l.rt⟩
    | false => exact l.nx _ _ _ (r'.mono k1 t1) s1 q
  | .brk, X, sc, st, b, h => by
    simp only [chkS] at h
    split at h
    case h_2 => cases h
    refine PS.imp ps_break fun D σ H q => ?_
    obtain ⟨H0, σt, Dt, r, w, l⟩ := q
    simp only [wS] at w
    exact l.bk _ _ _ r Stn.refl w
  | .cnt, X, sc, st, b, h => by
    simp only [chkS] at h
    split at h
    case h_2 => cases h
    refine PS.imp ps_continue fun D σ H q => ?_
    obtain ⟨H0, σt, Dt, r, w, l⟩ := q
    simp only [wS] at w
    exact l.ct _ _ _ r Stn.refl w
  | .dead, X, sc, st, b, h => ⟨fun pins s σ H D I q => by obtain ⟨H0, σt, Dt, r, w, l⟩ := q; simp only [wS] at w⟩
  | .pas, X, sc, st, b, h => by
    simp only [chkS] at h
    split at h
    case h_2 => cases h
    refine PS.imp ps_pass fun D σ H q => ?_
    obtain ⟨H0, σt, Dt, r, w, l⟩ := q
    simp only [wS] at w
    exact l.nx _ _ _ r Stn.refl w
  | .frz _, X, sc, st, b, h => by simp [chkS] at h
  | .augI _ _ _ _, X, sc, st, b, h => by simp [chkS] at h
  | .ins _ _ _, X, sc, st, b, h => by simp [chkS] at h
  | .pop _ _, X, sc, st, b, h => by simp [chkS] at h
  | .popAt _ _ _, X, sc, st, b, h => by simp [chkS] at h
theorem sndSs {fr : Bool} : ∀ (ss : List S) (X : Cx) (sc : Scope) (sts : List Stmt), BodyOk G Γ k X sc → chkSs Γ X.N fr sc ss sts = true → PSs X sts (ssOf X.K G tp fr ss)
  | [], X, sc, sts, b, h => by
    simp only [chkSs] at h
    cases sts with
    | cons => cases h
    | nil =>
      refine PSs.imp pss_nil fun D σ H q => ?_
      obtain ⟨H0, σt, Dt, r, w, l⟩ := q
      simp only [wSs] at w
      exact l.nx _ _ _ r Stn.refl w
  | s :: ss, X, sc, sts, b, h => by
    simp only [chkSs] at h
    split at h
    · rename_i i
      have ih := sndSs ss X sc sts b h
      refine ⟨fun pins s0 σ H D I q => ?_⟩
      obtain ⟨H0, σt, Dt, r, w, l⟩ := q
      simp only [wSs, wS] at w
      obtain ⟨p, ts, vs, e0, e1, off, hp, rs, n, q⟩ := own_of r w
      obtain ⟨od, I2⟩ := I.lock hp trivial
      exact ih.run pins s0 σ _ D I2 ⟨H0, _, Dt, r.lock e0 e1 off hp n rs, q, l.from (Stn.upd hp)⟩
    · split at h
      case h_2 => cases h
      rename_i x xr
      simp only [Bool.and_eq_true] at h
      refine PSs.imp (pss_cons (sndS s X sc x b h.1) (sndSs ss X sc xr b h.2)) fun D σ H q => ?_
      obtain ⟨H0, σt, Dt, r, w, l⟩ := q
      simp only [wSs] at w
      exact ⟨H0, σt, _, r, w, l.seq fun σt' σ' H' r' s' q' => ⟨H0, σt', Dt, r', q', l.from s'⟩⟩
end
end
end TL

set_option Elab.async false
set_option linter.all false
set_option maxRecDepth 100000
set_option maxHeartbeats 16000000
/-! TLn: defs. -/
namespace TL
open PySem PySem.Spec PyProof.Rows L2
/-- what stands around: the defs that may be called, constants, built-ins -/
structure GlobOk (G : Gm) (Γ : GN) (k : Nat) (P : Program) (w : World) (K : PySem.W.Frag) (mg : Str → Option Value) (base : Heap) : Prop where
  bl : ∀ x ∈ Γ.bl, mg x = none
  cs : ∀ (i : Nat) x, Γ.cs[i]? = some x → ∃ v u, mg x = some u ∧ RelV v u ∧ ∀ tp H, RT K tp H (G.cs i) v
  fn : ∀ (i : Nat) x fr, Γ.fn[i]? = some (x, fr) → FnFact P w K mg base k (G.fn i) x fr
section
variable {G : Gm} {Γ : GN} {k : Nat} {P : Program} {w : World} {K : PySem.W.Frag} {mg : Str → Option Value} {base : Heap}
theorem startT_own {n i : Nat} {ts : List T} {t : T} : (startT n ts)[i]? ≠ some (.own t) := fun h => by
  unfold startT at h
  by_cases hi : i < ts.length
  · rw [List.getElem?_append_left (by simpa using hi), List.getElem?_map] at h
    cases e : ts[i]? with
    | none => rw [e] at h; cases h
    | some a => rw [e] at h; cases h
  · rw [List.getElem?_append_right (by simpa using hi), List.getElem?_replicate] at h
    split at h <;> cases h
theorem RS.start {tp : Option (Addr × Addr)} {H : Hp} {N : List Str} {ts : List T} {vs : List V} (t : Tp tp H) (rs : RTs K tp H ts vs) : RS K tp H (startT N.length ts) (L2.start N vs) H where
  len := by unfold startT L2.start; simp [rs.len]
  val := fun i u h => by
    unfold startT at h
    have hi : i < ts.length := by
      by_cases hi : i < ts.length
      · exact hi
      · rw [List.getElem?_append_right (by simpa using hi), List.getElem?_replicate] at h
        split at h <;> cases h
    rw [List.getElem?_append_left (by simpa using hi), List.getElem?_map] at h
    cases e : ts[i]? with
    | none => rw [e] at h; cases h
    | some a =>
      rw [e] at h; cases h
      obtain ⟨v, e1, r⟩ := rs.get e
      refine ⟨v, ?_, r⟩
      unfold L2.start
      rw [List.getElem?_append_left (by rw [List.length_map, ← rs.len]; exact hi), List.getElem?_map, e1]
      rfl
  own := fun i u h => absurd h startT_own
  inj := fun i j u u' p h => absurd h startT_own
  kp := Kp.refl
  tp0 := t
  tpo := t
theorem GlobOk.cx (g : GlobOk G Γ k P w K mg base) {N ps : List Str} {qual : Str} {scope : Scope} {f : Addr} {cd : Value} {A : Around} {outer : List Env} {s : Shared} {H : Hp} {E : XK} (S : FnScope N ps scope) (hr : Room k (A.deeper (envOfC qual scope s.heap.objs.size f cd))) :
    BodyOk G Γ k (cxOf CX0 P w K mg base N qual scope f cd A outer s H E).nox scope where
  c := ⟨rfl, S.nd, g.bl, g.cs, g.fn, hr⟩
  hs := rfl
  kind := S.kind
  fn := fun _ => rfl
  pass := PassesOwn.never
/-- THE RULE: a def keeps its promise, told of trees -/
theorem fn_ok (g : GlobOk G Γ k P w K mg base) {x qual : Str} {params : Arguments} {body : List Stmt} {scope : Scope} {f : Addr} {fd : FuncData} (F : FunD K x qual params body scope [] [] f fd) {N ps : List Str} (S : FnScope N ps scope) {fr : Bool} (ir : List TL.S)
    (chk : chkSs Γ N fr scope ir body = true) {sp : List T → (T → Prop) → Prop} (hsp : ∀ ts Q, sp ts Q → wFn G fr ⟨ps.length, N.length, ir⟩ ts Q) : FnOk P w K mg base CX0 (k + 1) f fd ps (lift K fr sp) := by
  refine F.ok S (fun vs H QL E h => ?_) (fun cdv A outer s H vs QL E hr h => ?_)
  · obtain ⟨tp, ts, Q, t, rs, w, _⟩ := h
    rw [← rs.len]
    exact (hsp ts Q w).1
  · obtain ⟨tp, ts, Q, t, rs, w, kk⟩ := h
    have b := g.cx (outer := outer) (H := H) (E := E) S hr
    refine ⟨_, PSs.nox (sndSs (tp := tp) (fr := fr) ir _ scope body b chk), H, startT N.length ts, _, RS.start t rs, (hsp ts Q w).2, ?_⟩
    refine ⟨fun σt σ H' r _ q => ?_, fun σt σ H' r _ q => q.elim, fun σt σ H' r _ q => q.elim, fun u v H' k1 t1 n q => kk u v H' k1 t1 n q⟩
    cases fr with
    | true => simp at q
    | false => exact kk .non .non H' r.kp r.tpo (by simpa using RT.non_i) (by simpa using q)
/-- .. as a fact for its callers -/
theorem fn_fact (g : GlobOk G Γ k P w K mg base) {x qual : Str} {params : Arguments} {body : List Stmt} {scope : Scope} {f : Addr} {fd : FuncData} (hm : mg x = some (.ref f)) (F : FunD K x qual params body scope [] [] f fd) {N ps : List Str} (S : FnScope N ps scope) {fr : Bool} (ir : List TL.S)
    (hb : ∀ (kV doc pm : Value) (an : Option Addr) (cdv ct : Value) (us : List Value), us.length = ps.length → bindArgs (PySem.W.fnOf x qual params body scope .none kV doc pm an cdv ct) ⟨us, []⟩ = pure (ps.zip us))
    (chk : chkSs Γ N fr scope ir body = true) {sp : List T → (T → Prop) → Prop} (hsp : ∀ ts Q, sp ts Q → wFn G fr ⟨ps.length, N.length, ir⟩ ts Q) : FnFact P w K mg base (k + 1) sp x fr :=
  ⟨f, fd, ps, hm, F.kp, F.bindsN hb, fn_ok g F S ir chk hsp⟩
/-- one def more -/
theorem GlobOk.more {fns : List (Str × Bool)} {cs bl : List Str} {n : Nat} {x : Str} {fr : Bool} (g : GlobOk G ⟨fns.take n, cs, bl⟩ k P w K mg base) (h : fns[n]? = some (x, fr)) (f : FnFact P w K mg base (k + 1) (G.fn n) x fr) : GlobOk G ⟨fns.take (n + 1), cs, bl⟩ (k + 1) P w K mg base where
  bl := g.bl
  cs := g.cs
  fn := fun i y fr' e => by
    have e' : (fns.take (n + 1))[i]? = some (y, fr') := e
    rw [List.getElem?_take] at e'
    split at e'
    · rename_i hi
      by_cases hn : i = n
      · subst hn
        rw [h] at e'; cases e'
        exact f
      · obtain ⟨fa, fd, ps, h1, h2, h3, h4⟩ := g.fn i y fr' (by show (fns.take n)[i]? = _; rw [List.getElem?_take, if_pos (by omega)]; exact e')
        exact ⟨fa, fd, ps, h1, h2, h3, h4.mono (Nat.le_succ _)⟩
    · cases e'
end
/-! ### the law's draws -/
/-- what a draw gives: any number below -/
def spDraw (ts : List T) (Q : T → Prop) : Prop := ∃ m : Int, ts = [.tape, .int m] ∧ 0 < m ∧ m.natAbs.log2 < 9000 ∧ ∀ d : Int, 0 ≤ d → d < m → Q (.int d)
/-- what the loading of the box gives, of heaps -/
def spLoad : Sp := fun vs H Q _ => ∃ (b c : Addr) (x y : Int) (ns : List Int), vs = [.ref b] ∧ b ≠ c ∧ H b = some (.lst [.ref c, .int x, .int y]) ∧ H c = some (.lst (ns.map V.int)) ∧ 0 ≤ y ∧ y < 2 ^ 62 ∧
  ∀ (r y' : Int) (ns' : List Int) (H' : Hp), 0 ≤ r → 0 ≤ y' → y' < 2 ^ 62 → H' b = some (.lst [.ref c, .int x, .int y']) → H' c = some (.lst (ns'.map V.int)) → (∀ a, a ≠ b → a ≠ c → H' a = H a) → Q (.int r) H'
end TL

set_option Elab.async false
set_option linter.all false
set_option maxRecDepth 100000
set_option maxHeartbeats 16000000
/-! TLo: the law's own draws: _law_box, _law_load, _law_draw. The bodies are printed by genpos.py. -/
namespace TL
open PySem PySem.Spec PyProof.Rows L2
abbrev B_law_box (q0 q1 q2 q3 q4 q5 q6 q7 q8 q9 q10 q11 q12 q13 : Pos) : List Stmt :=
  [.Return (some (.List [(.Call (.Name "list" q0) [(.Subscript (.Name "script" q1) (.Slice none (some (.Constant (.int 63) 0 q2)) none q3) q4)] [] q5), (.Constant (.int 0) 0 q6), (.BinOp (.Constant (.int 4711) 0 q7) .Add (.Call (.Name "len" q8) [(.Name "script" q9)] [] q10) q11)] q12)) q13]
abbrev B_law_load (q0 q1 q2 q3 q4 q5 q6 q7 q8 q9 q10 q11 q12 q13 q14 q15 q16 q17 q18 q19 q20 q21 q22 q23 q24 q25 q26 q27 q28 q29 q30 q31 q32 q33 q34 q35 q36 q37 q38 q39 q40 q41 q42 q43 q44 q45 q46 q47 q48 q49 q50 q51 q52 q53 q54 q55 q56 q57 q58 q59 q60 q61 q62 q63 q64 q65 q66 q67 q68 q69 q70 q71 q72 q73 q74 q75 q76 q77 q78 q79 q80 q81 q82 q83 q84 q85 q86 q87 q88 q89 q90 q91 q92 q93 q94 q95 q96 q97 q98 q99 q100 q101 q102 q103 q104 q105 qA qC : Pos) : List Stmt :=
  [.Assign [(.Name "cells" q0)] (.Subscript (.Name "box" q1) (.Constant (.int 0) 0 q2) q3) q4,
  .If (.Compare (.Call (.Name "len" q5) [(.Name "cells" q6)] [] q7) [.Gt] [(.Constant (.int 0) 0 q8)] q9) [.Assign [(.Name "cell" q10)] (.Call (.Name "int" q11) [(.Call (.Attribute (.Name "cells" q12) "pop" qA) [(.Constant (.int 0) 0 q13)] [] qC)] [] q14) q15,
  .Assign [(.Name "size" q16)] (.IfExp (.Compare (.Name "cell" q17) [.GtE] [(.Constant (.int 0) 0 q18)] q19) (.BinOp (.Constant (.int 2) 0 q20) .Mult (.Name "cell" q21) q22) (.BinOp (.BinOp (.UnaryOp .USub (.Constant (.int 2) 0 q23) q24) .Mult (.Name "cell" q25) q26) .Sub (.Constant (.int 1) 0 q27) q28) q29) q30,
  .If (.Compare (.Name "size" q31) [.GtE] [(.Constant (.int 1000000000000000000) 0 q32)] q33) [.Return (some (.Name "size" q34)) q35] [] q36,
  .Assign [(.Subscript (.Name "box" q37) (.Constant (.int 2) 0 q38) q39)] (.BinOp (.Call (.Name "int" q40) [(.BinOp (.BinOp (.BinOp (.Subscript (.Name "box" q41) (.Constant (.int 2) 0 q42) q43) .Mult (.Constant (.int 69621) 0 q44) q45) .Add (.BinOp (.Name "size" q46) .Mult (.Constant (.int 48271) 0 q47) q48) q49) .Add (.Constant (.int 11) 0 q50) q51)] [] q52) .Mod (.Constant (.int 2147483647) 0 q53) q54) q55] [] q56,
  .Assign [(.Name "first" q57)] (.BinOp (.Call (.Name "int" q58) [(.BinOp (.BinOp (.Subscript (.Name "box" q59) (.Constant (.int 2) 0 q60) q61) .Mult (.Constant (.int 48271) 0 q62) q63) .Add (.Constant (.int 17) 0 q64) q65)] [] q66) .Mod (.Constant (.int 2147483629) 0 q67) q68) q69,
  .Assign [(.Name "second" q70)] (.BinOp (.Call (.Name "int" q71) [(.BinOp (.BinOp (.Name "first" q72) .Mult (.Constant (.int 69621) 0 q73) q74) .Add (.Constant (.int 5) 0 q75) q76)] [] q77) .Mod (.Constant (.int 2147483587) 0 q78) q79) q80,
  .Assign [(.Subscript (.Name "box" q81) (.Constant (.int 2) 0 q82) q83)] (.BinOp (.Call (.Name "int" q84) [(.BinOp (.BinOp (.Name "second" q85) .Mult (.Constant (.int 40692) 0 q86) q87) .Add (.Constant (.int 3) 0 q88) q89)] [] q90) .Mod (.Constant (.int 2147483563) 0 q91) q92) q93,
  .Return (some (.BinOp (.BinOp (.BinOp (.Name "first" q94) .Mult (.Constant (.int 4611686014132420609) 0 q95) q96) .Add (.BinOp (.Name "second" q97) .Mult (.Constant (.int 2147483647) 0 q98) q99) q100) .Add (.Subscript (.Name "box" q101) (.Constant (.int 2) 0 q102) q103) q104)) q105]
abbrev B_law_draw (q0 q1 q2 q3 q4 q5 q6 q7 q8 q9 q10 q11 q12 q13 q14 q15 q16 q17 q18 q19 q20 q21 q22 q23 q24 q25 q26 q27 q28 q29 q30 q31 q32 : Pos) : List Stmt :=
  [.If (.Compare (.Subscript (.Name "box" q0) (.Constant (.int 1) 0 q1) q2) [.Lt] [(.Name "many" q3)] q4) [.Assign [(.Subscript (.Name "box" q5) (.Constant (.int 1) 0 q6) q7)] (.Call (.Name "_law_load" q8) [(.Name "box" q9)] [] q10) q11] [] q12,
  .Assign [(.Name "digit" q13)] (.BinOp (.Call (.Name "int" q14) [(.Subscript (.Name "box" q15) (.Constant (.int 1) 0 q16) q17)] [] q18) .Mod (.Name "many" q19) q20) q21,
  .Assign [(.Subscript (.Name "box" q22) (.Constant (.int 1) 0 q23) q24)] (.BinOp (.Subscript (.Name "box" q25) (.Constant (.int 1) 0 q26) q27) .FloorDiv (.Name "many" q28) q29) q30,
  .Return (some (.Name "digit" q31)) q32]
section
variable {K : PySem.W.Frag} {σ : L2.St} {H : Hp} {b : Addr} {xs : List V} {i : Int} {v : V} {Q : VK}
theorem box_ix {k : Nat} (e : σ[k]? = some (some (.ref b))) (h : H b = some (.lst xs)) (a : atI xs i = some v) (q : Q v H) : tOp (rIx K) (tVar k) (tC (.int i)) σ H Q :=
  ⟨_, e, .inl ⟨b, xs, i, v, rfl, rfl, SqL.of h, a, q⟩⟩
theorem box_set {k j : Nat} {D : L2.St → Hp → Prop} (e : σ[k]? = some (some (.ref b))) (h : H b = some (.lst xs)) (a : ixN xs.length i = some j) (q : D σ (upd H b (.lst (xs.set j v)))) : gSub (tVar k) (tC (.int i)) rSetL v σ H D :=
  ⟨_, e, ⟨b, xs, i, j, rfl, rfl, h, a, q⟩⟩
end
abbrev rInt1 : List V → Hp → VK → Prop := fun xs H Q => (∃ i, xs = [.int i] ∧ Q (.int i) H) ∨ ∃ k, xs = [.bl k] ∧ Q (.int (if k then 1 else 0)) H
abbrev tI (t : TE) : TE := tCB rInt1 (tCons t tNil)
abbrev kI (i : Int) : TE := tC (.int i)
abbrev oAdd (a b : TE) : TE := tOp (rI0 fun i j => .int (i + j)) a b
abbrev oSub (a b : TE) : TE := tOp (rI0 fun i j => .int (i - j)) a b
abbrev oMul (a b : TE) : TE := tOp (rI CMul fun i j => .int (i * j)) a b
abbrev oMod (a b : TE) : TE := tOp (rI (fun _ j => 0 < j) fun i j => .int (i % j)) a b
abbrev oGe (a b : TE) : TT := tTest (tOp (rI0 fun i j => .bl (decide (j ≤ i))) a b)
abbrev oGt (a b : TE) : TT := tTest (tOp (rI0 fun i j => .bl (decide (j < i))) a b)
def tL1 (K : PySem.W.Frag) : L2.TS := tAsg (oMod (tI (oAdd (oAdd (oMul (tOp (rIx K) (tVar 0) (kI 2)) (kI 69621)) (oMul (tVar 3) (kI 48271))) (kI 11))) (kI 2147483647)) (gSub (tVar 0) (kI 2) rSetL)
def tL2 (K : PySem.W.Frag) : L2.TS := tSeq (tAsg (tI (tBM K "list" rPopAt (tVar 1) (tCons (kI 0) tNil))) (gName 2))
  (tSeq (tAsg (tIf (oGe (tVar 2) (kI 0)) (oMul (kI 2) (tVar 2)) (oSub (oMul (tUn (rU fun i => .int (-i)) (kI 2)) (tVar 2)) (kI 1))) (gName 3))
  (tSeq (tIfS (oGe (tVar 3) (kI 1000000000000000000)) (tRet (tVar 3)) tNext) (tL1 K)))
def tL3 (K : PySem.W.Frag) : L2.TS := tSeq (tAsg (oMod (tI (oAdd (oMul (tOp (rIx K) (tVar 0) (kI 2)) (kI 48271)) (kI 17))) (kI 2147483629)) (gName 4))
  (tSeq (tAsg (oMod (tI (oAdd (oMul (tVar 4) (kI 69621)) (kI 5))) (kI 2147483587)) (gName 5))
  (tSeq (tAsg (oMod (tI (oAdd (oMul (tVar 5) (kI 40692)) (kI 3))) (kI 2147483563)) (gSub (tVar 0) (kI 2) rSetL))
  (tRet (oAdd (oAdd (oMul (tVar 4) (kI 4611686014132420609)) (oMul (tVar 5) (kI 2147483647))) (tOp (rIx K) (tVar 0) (kI 2))))))
def tLoad (K : PySem.W.Frag) : L2.TS := tSeq (tAsg (tOp (rIx K) (tVar 0) (kI 0)) (gName 1)) (tSeq (tIfS (oGt (tCB (rLen K) (tCons (tVar 1) tNil)) (kI 0)) (tL2 K) tNext) (tL3 K))
def NL : List Str := ["box", "cells", "cell", "size", "first", "second"]
section
variable {K : PySem.W.Frag}
theorem load_nn {f g e : Int} (h1 : 0 ≤ f) (h2 : 0 ≤ g) (h3 : 0 ≤ e) : 0 ≤ f * 4611686014132420609 + g * 2147483647 + e := by omega
/-- rest of the loading, from box[2] = y -/
theorem load_end {b c : Addr} {x y : Int} {zs : List V} {o1 o2 o3 : Option V} {H H0 : Hp} {D : L2.Ends} (hb : b ≠ c) (h1 : H b = some (.lst [.ref c, .int x, .int y])) (h2 : H c = some (.lst zs)) (ho : ∀ a, a ≠ b → a ≠ c → H a = H0 a)
    (q : ∀ (r y' : Int) (H' : Hp), 0 ≤ r → 0 ≤ y' → y' < 2 ^ 62 → H' b = some (.lst [.ref c, .int x, .int y']) → H' c = some (.lst zs) → (∀ a, a ≠ b → a ≠ c → H' a = H0 a) → D.rt (.int r) H') :
    tL3 K D [some (.ref b), o1, o2, o3, none, none] H := by
  have m1 := Int.emod_nonneg (y * 48271 + 17) (b := 2147483629) (by decide)
  refine box_ix rfl h1 rfl ⟨_, _, rfl, rfl, .inr ⟨by decide, by decide⟩, ⟨_, _, rfl, rfl, .inl ⟨_, rfl, ⟨_, _, rfl, rfl, (show (0 : Int) < 2147483629 by decide), ?_⟩⟩⟩⟩
  have m3 := Int.emod_nonneg ((y * 48271 + 17) % 2147483629 * 69621 + 5) (b := 2147483587) (by decide)
  refine ⟨_, rfl, ⟨_, _, rfl, rfl, .inr ⟨by decide, by decide⟩, ⟨_, _, rfl, rfl, .inl ⟨_, rfl, ⟨_, _, rfl, rfl, (show (0 : Int) < 2147483587 by decide), ?_⟩⟩⟩⟩⟩
  have m5 := Int.emod_nonneg (((y * 48271 + 17) % 2147483629 * 69621 + 5) % 2147483587 * 40692 + 3) (b := 2147483563) (by decide)
  have m6 := Int.emod_lt_of_pos (((y * 48271 + 17) % 2147483629 * 69621 + 5) % 2147483587 * 40692 + 3) (b := 2147483563) (by decide)
  refine ⟨_, rfl, ⟨_, _, rfl, rfl, .inr ⟨by decide, by decide⟩, ⟨_, _, rfl, rfl, .inl ⟨_, rfl, ⟨_, _, rfl, rfl, (show (0 : Int) < 2147483563 by decide), ?_⟩⟩⟩⟩⟩
  refine box_set (j := 2) rfl h1 rfl ?_
  refine ⟨_, rfl, ⟨_, _, rfl, rfl, .inr ⟨by decide, by decide⟩, ⟨_, rfl, ⟨_, _, rfl, rfl, .inr ⟨by decide, by decide⟩, ⟨_, _, rfl, rfl, ?_⟩⟩⟩⟩⟩
  refine box_ix rfl upd_same rfl ⟨_, _, rfl, rfl, ?_⟩
  exact q _ _ _ (load_nn m1 m3 m5) m5 (Int.lt_trans m6 (by decide)) upd_same (by rw [upd_ne hb.symm]; exact h2) fun a n1 n2 => by rw [upd_ne n1]; exact ho a n1 n2
theorem load_run (vs : List V) (H : Hp) (Q : VK) (E : XK) (h : spLoad vs H Q E) : tLoad K { nx := fun _ H' => Q .non H', rt := Q } (L2.start NL vs) H := by
  obtain ⟨b, c, x, y, ns, rfl, hb, h1, h2, y0, y1, q⟩ := h
  refine box_ix rfl h1 rfl ?_
  refine ⟨_, rfl, ⟨_, _, rfl, .inl ⟨_, SqL.of h2, rfl⟩, ⟨_, _, rfl, rfl, ⟨_, rfl, ?_⟩⟩⟩⟩
  cases ns with
  | nil =>
    show if decide ((0 : Int) < (([] : List Int).map V.int).length) = true then _ else _
    rw [if_neg (by simp)]
    exact load_end (zs := []) hb h1 h2 (fun a _ _ => rfl) fun r y' H' r0 p0 p1 e1 e2 e3 => q r y' [] H' r0 p0 p1 e1 e2 e3
  | cons n ns =>
    show if decide ((0 : Int) < ((n :: ns).map V.int).length) = true then _ else _
    rw [if_pos (by simp only [List.length_map, List.length_cons, decide_eq_true_eq]; omega)]
    refine ⟨_, rfl, .inl ⟨rfl, _, SqL.of h2⟩, ⟨_, _, 0, 0, .int n, rfl, rfl, h2, by decide, by decide, by simp [seqIndex?], rfl, .inl ⟨_, rfl, ?_⟩⟩⟩
    have k1 : upd H c (.lst (((n :: ns).map V.int).eraseIdx 0)) b = some (.lst [.ref c, .int x, .int y]) := by rw [upd_ne hb]; exact h1
    have k2 : upd H c (.lst (((n :: ns).map V.int).eraseIdx 0)) c = some (.lst (ns.map V.int)) := upd_same
    have k3 : ∀ a, a ≠ b → a ≠ c → upd H c (.lst (((n :: ns).map V.int).eraseIdx 0)) a = H a := fun a _ n2 => upd_ne n2
    generalize upd H c (.lst (((n :: ns).map V.int).eraseIdx 0)) = H2 at k1 k2 k3
    have go : ∀ z : Int, 0 ≤ z → (tSeq (tIfS (oGe (tVar 3) (kI 1000000000000000000)) (tRet (tVar 3)) tNext) (tL1 K)) { nx := tL3 K { nx := fun _ H' => Q .non H', rt := Q }, rt := Q } [some (.ref b), some (.ref c), some (.int n), some (.int z), none, none] H2 := fun z hz => by
      refine ⟨_, rfl, ⟨_, _, rfl, rfl, ⟨_, rfl, ?_⟩⟩⟩
      show if decide ((1000000000000000000 : Int) ≤ z) = true then _ else _
      by_cases hd : (1000000000000000000 : Int) ≤ z
      · rw [if_pos (decide_eq_true hd)]
        exact ⟨_, rfl, q z y ns H2 hz y0 y1 k1 k2 k3⟩
      · rw [if_neg (by simpa using hd)]
        refine box_ix rfl k1 rfl ⟨_, _, rfl, rfl, .inr ⟨by decide, by decide⟩, ⟨_, rfl, ⟨_, _, rfl, rfl, .inr ⟨by decide, by decide⟩, ⟨_, _, rfl, rfl, ⟨_, _, rfl, rfl, .inl ⟨_, rfl, ⟨_, _, rfl, rfl, (show (0 : Int) < 2147483647 by decide), ?_⟩⟩⟩⟩⟩⟩⟩
        refine box_set (j := 2) rfl k1 rfl ?_
        exact load_end (zs := ns.map V.int) hb upd_same (by rw [upd_ne hb.symm]; exact k2) (fun a n1 n2 => by rw [upd_ne n1]; exact k3 a n1 n2) fun r y' H' r0 p0 p1 e1 e2 e3 => q r y' ns H' r0 p0 p1 e1 e2 e3
    refine ⟨_, rfl, ⟨_, _, rfl, rfl, ⟨_, rfl, ?_⟩⟩⟩
    show if decide ((0 : Int) ≤ n) = true then _ else _
    by_cases hd : (0 : Int) ≤ n
    · rw [if_pos (decide_eq_true hd)]
      exact ⟨_, rfl, ⟨_, _, rfl, rfl, .inl ⟨by decide, by decide⟩, go (2 * n) (by omega)⟩⟩
    · rw [if_neg (by simpa using hd)]
      exact ⟨_, rfl, ⟨_, rfl, ⟨_, _, rfl, rfl, .inl ⟨by decide, by decide⟩, ⟨_, _, rfl, rfl, go (-2 * n - 1) (by omega)⟩⟩⟩⟩
end
section
variable {P : Program} {w : World} {K : PySem.W.Frag} {mg : Str → Option Value} {base : Heap} {f : Addr} {fd : FuncData} {pa : Arguments} {bd : List Stmt} {sc : Scope}
theorem ok_load {q0 q1 q2 q3 q4 q5 q6 q7 q8 q9 q10 q11 q12 q13 q14 q15 q16 q17 q18 q19 q20 q21 q22 q23 q24 q25 q26 q27 q28 q29 q30 q31 q32 q33 q34 q35 q36 q37 q38 q39 q40 q41 q42 q43 q44 q45 q46 q47 q48 q49 q50 q51 q52 q53 q54 q55 q56 q57 q58 q59 q60 q61 q62 q63 q64 q65 q66 q67 q68 q69 q70 q71 q72 q73 q74 q75 q76 q77 q78 q79 q80 q81 q82 q83 q84 q85 q86 q87 q88 q89 q90 q91 q92 q93 q94 q95 q96 q97 q98 q99 q100 q101 q102 q103 q104 q105 qA qC : Pos}
    (F : FunD K "_law_load" "_law_load" pa bd sc [] [] f fd) (S : FnScope NL ["box"] sc) (hl : NL.all (fun x => decide (sc.names.lookup x = some .local)) = true) (g1 : sc.names.lookup ("len" : Str) = some .globalImplicit) (g2 : sc.names.lookup ("int" : Str) = some .globalImplicit)
    (hb : bd = B_law_load q0 q1 q2 q3 q4 q5 q6 q7 q8 q9 q10 q11 q12 q13 q14 q15 q16 q17 q18 q19 q20 q21 q22 q23 q24 q25 q26 q27 q28 q29 q30 q31 q32 q33 q34 q35 q36 q37 q38 q39 q40 q41 q42 q43 q44 q45 q46 q47 q48 q49 q50 q51 q52 q53 q54 q55 q56 q57 q58 q59 q60 q61 q62 q63 q64 q65 q66 q67 q68 q69 q70 q71 q72 q73 q74 q75 q76 q77 q78 q79 q80 q81 q82 q83 q84 q85 q86 q87 q88 q89 q90 q91 q92 q93 q94 q95 q96 q97 q98 q99 q100 q101 q102 q103 q104 q105 qA qC) (mL : mg "len" = none) (mI : mg "int" = none) (hp : (qA.endLine == qC.line) = true) : FnOk P w K mg base CX0 1 f fd ["box"] spLoad := by
  have loc : ∀ x ∈ NL, sc.names.lookup x = some .local := fun x m => by simpa using List.all_eq_true.mp hl x m
  have l0 := loc "box" (by decide)
  have l1 := loc "cells" (by decide)
  have l2 := loc "cell" (by decide)
  have l3 := loc "size" (by decide)
  have l4 := loc "first" (by decide)
  have l5 := loc "second" (by decide)
  refine F.ok S (fun vs H Q E h => ?_) (fun cdv A outer s H vs Q E hr h => ⟨tLoad K, PSs.nox ?pss, ?pure⟩)
  · obtain ⟨b, c, x, y, ns, rfl, _⟩ := h
    rfl
  case pss =>
    rw [hb]
    have v0 : ∀ p, PE (cxOf CX0 P w K mg base NL "_law_load" sc f cdv A outer s H E).nox (.Name "box" p) (tVar 0) := fun p => pe_var rfl (.inl l0)
    have v1 : ∀ p, PE (cxOf CX0 P w K mg base NL "_law_load" sc f cdv A outer s H E).nox (.Name "cells" p) (tVar 1) := fun p => pe_var rfl (.inl l1)
    have v2 : ∀ p, PE (cxOf CX0 P w K mg base NL "_law_load" sc f cdv A outer s H E).nox (.Name "cell" p) (tVar 2) := fun p => pe_var rfl (.inl l2)
    have v3 : ∀ p, PE (cxOf CX0 P w K mg base NL "_law_load" sc f cdv A outer s H E).nox (.Name "size" p) (tVar 3) := fun p => pe_var rfl (.inl l3)
    have v4 : ∀ p, PE (cxOf CX0 P w K mg base NL "_law_load" sc f cdv A outer s H E).nox (.Name "first" p) (tVar 4) := fun p => pe_var rfl (.inl l4)
    have v5 : ∀ p, PE (cxOf CX0 P w K mg base NL "_law_load" sc f cdv A outer s H E).nox (.Name "second" p) (tVar 5) := fun p => pe_var rfl (.inl l5)
    have ix : ∀ (k : Int) (p1 p2 p3 : Pos), PE (cxOf CX0 P w K mg base NL "_law_load" sc f cdv A outer s H E).nox (.Subscript (.Name "box" p1) (.Constant (.int k) 0 p2) p3) (tOp (rIx K) (tVar 0) (tC (.int k))) := fun k p1 p2 p3 => pe_ix ix_seq (v0 _) pe_int fun _ _ => rfl
    have st : ∀ (k : Int) (p1 p2 p3 : Pos), PG (cxOf CX0 P w K mg base NL "_law_load" sc f cdv A outer s H E).nox (.Subscript (.Name "box" p1) (.Constant (.int k) 0 p2) p3) (gSub (tVar 0) (tC (.int k)) rSetL) := fun k p1 p2 p3 => pg_sub (v0 _) pe_int set_list
    have ic : ∀ (e : Expr) (t : TE) (p1 p2 : Pos), PE (cxOf CX0 P w K mg base NL "_law_load" sc f cdv A outer s H E).nox e t → starEach [e] (cxOf CX0 P w K mg base NL "_law_load" sc f cdv A outer s H E).nox.env = [(false, eval e (cxOf CX0 P w K mg base NL "_law_load" sc f cdv A outer s H E).nox.env)] → PE (cxOf CX0 P w K mg base NL "_law_load" sc f cdv A outer s H E).nox (.Call (.Name "int" p1) [e] [] p2) _ := fun e t p1 p2 he ns => pe_callTy call_int1 g2 mI (by decide +kernel) (pa_cons he pa_nil ns) (by decide) (by decide) ns rfl
    refine pss_cons (ps_set (i := 1) S.nd rfl (.inl l1) (ix _ _ _ _) rfl (.inr l1)) ?_
    refine pss_cons (ps_if (pt_cmpR op_gt (pe_callB call_len g1 mL boot_len (pa_cons (v1 _) pa_nil)) pe_int (nomark _)) (pss_cons (ps_set (i := 2) S.nd rfl (.inl l2) (ic _ _ _ _ (pe_bm PySem.F.plainAttrs_list PySem.F.slot_list_pop PySem.F.type_list_pop mt_popAt (v1 _) (pa_cons pe_int pa_nil) rfl (by rfl) hp rfl rfl) rfl) rfl (.inr l2)) ?_) pss_nil) ?_
    · refine pss_cons (ps_set (i := 3) S.nd rfl (.inl l3) (pe_ifExp (pt_cmpR op_ge (v2 _) pe_int (nomark _)) (pe_op op_mul pe_int (v2 _)) (pe_op op_sub (pe_op op_mul (pe_un un_neg pe_int) (v2 _)) pe_int)) rfl (.inr l3)) ?_
      refine pss_cons (ps_if (pt_cmpR op_ge (v3 _) pe_int (nomark _)) (pss_one (ps_ret (v3 _))) pss_nil) ?_
      exact pss_one (ps_asg (pe_op op_mod (ic _ _ _ _ (pe_op op_add (pe_op op_add (pe_op op_mul (ix _ _ _ _) pe_int) (pe_op op_mul (v3 _) pe_int)) pe_int) rfl) pe_int) (st _ _ _ _))
    · refine pss_cons (ps_set (i := 4) S.nd rfl (.inl l4) (pe_op op_mod (ic _ _ _ _ (pe_op op_add (pe_op op_mul (ix _ _ _ _) pe_int) pe_int) rfl) pe_int) rfl (.inr l4)) ?_
      refine pss_cons (ps_set (i := 5) S.nd rfl (.inl l5) (pe_op op_mod (ic _ _ _ _ (pe_op op_add (pe_op op_mul (v4 _) pe_int) pe_int) rfl) pe_int) rfl (.inr l5)) ?_
      refine pss_cons (ps_asg (pe_op op_mod (ic _ _ _ _ (pe_op op_add (pe_op op_mul (v5 _) pe_int) pe_int) rfl) pe_int) (st _ _ _ _)) ?_
      exact pss_one (ps_ret (pe_op op_add (pe_op op_add (pe_op op_mul (v4 _) pe_int) (pe_op op_mul (v5 _) pe_int)) (ix _ _ _ _)))
  case pure => exact load_run vs H Q E h
end
def ND : List Str := ["box", "many", "digit"]
def tDraw (K : PySem.W.Frag) : L2.TS := tSeq (tIfS (tTest (tOp (rI0 fun i j => .bl (decide (i < j))) (tOp (rIx K) (tVar 0) (kI 1)) (tVar 1))) (tAsg (tCall spLoad [] E0 (tCons (tVar 0) tNil)) (gSub (tVar 0) (kI 1) rSetL)) tNext)
  (tSeq (tAsg (oMod (tI (tOp (rIx K) (tVar 0) (kI 1))) (tVar 1)) (gName 2))
  (tSeq (tAsg (tOp (rI CDivW fun i j => .int (i / j)) (tOp (rIx K) (tVar 0) (kI 1)) (tVar 1)) (gSub (tVar 0) (kI 1) rSetL)) (tRet (tVar 2))))
section
variable {K : PySem.W.Frag}
theorem draw_run (vs : List V) (H : Hp) (Q : VK) (E : XK) (h : lift K false spDraw vs H Q E) : tDraw K { nx := fun _ H' => Q .non H', rt := Q } (L2.start ND vs) H := by
  obtain ⟨tp, ts, Q', t, rs, ⟨m, rfl, m0, m1, q⟩, kk⟩ := h
  simp only [RTs, RT] at rs
  obtain ⟨_, _, rfl, ⟨b, c, e, rfl⟩, _, _, rfl, rfl, rfl⟩ := rs
  obtain ⟨hb, x, y, ns, h1, h2, x0, y0, y1⟩ := t b c e
  have tail : ∀ (x y : Int) (ns : List Int) (H1 : Hp), H1 b = some (.lst [.ref c, .int x, .int y]) → H1 c = some (.lst (ns.map V.int)) → 0 ≤ x → 0 ≤ y → y < 2 ^ 62 → (∀ a, a ≠ b → a ≠ c → H1 a = H a) →
      (tSeq (tAsg (oMod (tI (tOp (rIx K) (tVar 0) (kI 1))) (tVar 1)) (gName 2)) (tSeq (tAsg (tOp (rI CDivW fun i j => .int (i / j)) (tOp (rIx K) (tVar 0) (kI 1)) (tVar 1)) (gSub (tVar 0) (kI 1) rSetL)) (tRet (tVar 2)))) { nx := fun _ H' => Q .non H', rt := Q } [some (.ref b), some (.int m), none] H1 := fun x y ns H1 h1 h2 x0 y0 y1 ho => by
    have m2 := Int.emod_nonneg x (b := m) (by omega)
    have m3 := Int.emod_lt_of_pos x m0
    have m4 := Int.ediv_nonneg x0 (Int.le_of_lt m0)
    refine box_ix rfl h1 rfl (.inl ⟨_, rfl, ⟨_, rfl, ⟨_, _, rfl, rfl, m0, ?_⟩⟩⟩)
    refine box_ix rfl h1 rfl ⟨_, rfl, ⟨_, _, rfl, rfl, ⟨m0, m1⟩, ?_⟩⟩
    refine box_set (j := 1) rfl h1 rfl ⟨_, rfl, ?_⟩
    refine kk _ _ _ (fun a o ea of => ?_) (fun b' c' e' => ?_) (by simp only [Bool.false_eq_true, if_false, RT]) (q _ m2 m3)
    · obtain ⟨n1, n2⟩ := of b c e
      rw [upd_ne n1, ho a n1 n2]; exact ea
    · rw [e] at e'; cases e'
      exact ⟨hb, _, y, ns, upd_same, by rw [upd_ne hb.symm]; exact h2, m4, y0, y1⟩
  refine box_ix rfl h1 rfl ⟨_, rfl, ⟨_, _, rfl, rfl, ⟨_, rfl, ?_⟩⟩⟩
  show if decide (x < m) = true then _ else _
  by_cases hd : x < m
  · rw [if_pos (decide_eq_true hd)]
    refine ⟨_, rfl, ⟨b, c, x, y, ns, rfl, hb, h1, h2, y0, y1, fun r y' ns' H' r0 p0 p1 e1 e2 ho => ?_⟩⟩
    refine box_set (j := 1) rfl e1 rfl ?_
    exact tail r y' ns' _ upd_same (by rw [upd_ne hb.symm]; exact e2) r0 p0 p1 fun a n1 n2 => by rw [upd_ne n1]; exact ho a n1 n2
  · rw [if_neg (by simpa using hd)]
    exact tail x y ns H h1 h2 x0 y0 y1 fun a _ _ => rfl
end
section
variable {P : Program} {w : World} {K : PySem.W.Frag} {mg : Str → Option Value} {base : Heap} {f fl : Addr} {fd fdl : FuncData} {pa : Arguments} {bd : List Stmt} {sc : Scope}
theorem ok_draw {q0 q1 q2 q3 q4 q5 q6 q7 q8 q9 q10 q11 q12 q13 q14 q15 q16 q17 q18 q19 q20 q21 q22 q23 q24 q25 q26 q27 q28 q29 q30 q31 q32 : Pos}
    (F : FunD K "_law_draw" "_law_draw" pa bd sc [] [] f fd) (S : FnScope ND ["box", "many"] sc) (hl : ND.all (fun x => decide (sc.names.lookup x = some .local)) = true) (g1 : sc.names.lookup ("_law_load" : Str) = some .globalImplicit) (g2 : sc.names.lookup ("int" : Str) = some .globalImplicit)
    (hb : bd = B_law_draw q0 q1 q2 q3 q4 q5 q6 q7 q8 q9 q10 q11 q12 q13 q14 q15 q16 q17 q18 q19 q20 q21 q22 q23 q24 q25 q26 q27 q28 q29 q30 q31 q32) (GL : FnOk P w K mg base CX0 1 fl fdl ["box"] spLoad) (mL : mg "_law_load" = some (.ref fl)) (hk : PySem.W.keepIn K (.ref fl) = true) (bL : Binds K fdl ["box"] []) (mI : mg "int" = none) : FnOk P w K mg base CX0 2 f fd ["box", "many"] (lift K false spDraw) := by
  have loc : ∀ x ∈ ND, sc.names.lookup x = some .local := fun x m => by simpa using List.all_eq_true.mp hl x m
  have l0 := loc "box" (by decide)
  have l1 := loc "many" (by decide)
  have l2 := loc "digit" (by decide)
  refine F.ok S (fun vs H Q E h => ?_) (fun cdv A outer s H vs Q E hr h => ⟨tDraw K, PSs.nox ?pss, draw_run vs H Q E h⟩)
  · obtain ⟨tp, ts, Q', t, rs, ⟨m, rfl, _⟩, _⟩ := h
    rw [← rs.len]
    rfl
  case pss =>
    rw [hb]
    have v0 : ∀ p, PE (cxOf CX0 P w K mg base ND "_law_draw" sc f cdv A outer s H E).nox (.Name "box" p) (tVar 0) := fun p => pe_var rfl (.inl l0)
    have v1 : ∀ p, PE (cxOf CX0 P w K mg base ND "_law_draw" sc f cdv A outer s H E).nox (.Name "many" p) (tVar 1) := fun p => pe_var rfl (.inl l1)
    have v2 : ∀ p, PE (cxOf CX0 P w K mg base ND "_law_draw" sc f cdv A outer s H E).nox (.Name "digit" p) (tVar 2) := fun p => pe_var rfl (.inl l2)
    have ix : ∀ (k : Int) (p1 p2 p3 : Pos), PE (cxOf CX0 P w K mg base ND "_law_draw" sc f cdv A outer s H E).nox (.Subscript (.Name "box" p1) (.Constant (.int k) 0 p2) p3) (tOp (rIx K) (tVar 0) (tC (.int k))) := fun k p1 p2 p3 => pe_ix ix_seq (v0 _) pe_int fun _ _ => rfl
    have st : ∀ (k : Int) (p1 p2 p3 : Pos), PG (cxOf CX0 P w K mg base ND "_law_draw" sc f cdv A outer s H E).nox (.Subscript (.Name "box" p1) (.Constant (.int k) 0 p2) p3) (gSub (tVar 0) (tC (.int k)) rSetL) := fun k p1 p2 p3 => pg_sub (v0 _) pe_int set_list
    refine pss_cons (ps_if (pt_cmpR op_lt (ix _ _ _ _) (v1 _) (nomark _)) (pss_one (ps_asg (pe_call GL hr g1 mL hk bL .nil pass0 (pa_cons (v0 _) pa_nil)) (st _ _ _ _))) pss_nil) ?_
    refine pss_cons (ps_set (i := 2) S.nd rfl (.inl l2) (pe_op op_mod (pe_callTy call_int1 g2 mI (by decide +kernel) (pa_cons (ix _ _ _ _) pa_nil) (by decide) (by decide) rfl rfl) (v1 _)) rfl (.inr l2)) ?_
    exact pss_cons (ps_asg (pe_op op_fdivW (ix _ _ _ _) (v1 _)) (st _ _ _ _)) (pss_one (ps_ret (v2 _)))
end
/-! ### the box -/
/-- what the law begins with: a new tape -/
def spBox (K : PySem.W.Frag) : Sp := fun vs H Q _ => ∃ (a : Addr) (ns : List Int), vs = [.ref a] ∧ SqL K H a (ns.map V.int) ∧ ns.length ≤ 63 ∧ ∀ (b c : Addr) (H' : Hp), Tp (some (b, c)) H' → (∀ p o, H p = some o → H' p = some o) → Q (.ref b) H'
def tBox (K : PySem.W.Frag) : L2.TS := tRet (tLst (tCons (tCB (fun xs H Q => ∃ p ys, xs = [.ref p] ∧ (SqL K H p ys ∨ SqT K H p ys) ∧ ∀ l, H l = none → Q (.ref l) (upd H l (.lst ys))) (tCons (L2.tSl (rSlL K) (tVar 0) tNoPart (tPart (kI 63))) tNil)) (tCons (kI 0) (tCons (oAdd (kI 4711) (tCB (rLen K) (tCons (tVar 0) tNil))) tNil))))
theorem sqL_keep {K : PySem.W.Frag} {H H' : Hp} {a : Addr} {xs : List V} (h : SqL K H a xs) (k : ∀ x o, H x = some o → H' x = some o) : SqL K H' a xs := by
  rcases h with (h | ⟨o, h⟩) | h
  · exact .inl (.inl (k _ _ h))
  · exact .inl (.inr ⟨o, k _ _ h⟩)
  · exact .inr h
theorem box_run {K : PySem.W.Frag} (vs : List V) (H : Hp) (Q : VK) (E : XK) (h : spBox K vs H Q E) : tBox K { nx := fun _ H' => Q .non H', rt := Q } (L2.start ["script"] vs) H := by
  obtain ⟨a, ns, rfl, ha, hz, q⟩ := h
  refine ⟨_, rfl, _, rfl, ⟨a, _, rfl, ha, fun p hp => ?_⟩⟩
  obtain ⟨ms, e0⟩ : ∃ ms : List Int, cutV (ns.map V.int) none (some 63) = ms.map V.int := ⟨((ns.drop (HT.sIx (ns.map V.int).length 0 none)).take (HT.sIx (ns.map V.int).length (ns.map V.int).length (some 63) - HT.sIx (ns.map V.int).length 0 none)), by unfold cutV; rw [List.map_take, List.map_drop]⟩
  rw [e0]
  refine ⟨p, _, rfl, .inl (SqL.of upd_same), fun l hl => ?_⟩
  have pl : l ≠ p := fun z => by rw [z, upd_same] at hl; cases hl
  have hl0 : H l = none := by rw [upd_ne pl] at hl; exact hl
  have ne : ∀ x, H x ≠ none → x ≠ p ∧ x ≠ l := fun x hx => ⟨fun z => hx (z ▸ hp), fun z => hx (z ▸ hl0)⟩
  have aL : SqL K (upd (upd H p (.lst (ms.map V.int))) l (.lst (ms.map V.int))) a (ns.map V.int) := sqL_keep ha fun x o hx => by
    have nx := ne x (by rw [hx]; simp)
    rw [upd_ne nx.2, upd_ne nx.1]; exact hx
  refine ⟨_, rfl, _, _, rfl, .inl ⟨_, aL, rfl⟩, ⟨_, _, rfl, rfl, (show (3 : Nat) ≤ sizeLine by rw [sizeLine_eq]; decide), fun b hb => ?_⟩⟩
  have bl : b ≠ l := fun z => by rw [z, upd_same] at hb; cases hb
  refine q b l _ (fun b' c' e => ?_) fun x o hx => ?_
  · cases e
    refine ⟨bl, 0, _, ms, upd_same, ?_, by decide, ?_, ?_⟩
    · rw [upd_ne bl.symm, upd_same]
    · show (0 : Int) ≤ 4711 + ((ns.map V.int).length : Nat)
      omega
    · show (4711 : Int) + ((ns.map V.int).length : Nat) < 2 ^ 62
      rw [List.length_map]
      omega
  · have nx := ne x (by rw [hx]; simp)
    have nb : x ≠ b := fun z => by
      rw [← z, upd_ne nx.2, upd_ne nx.1, hx] at hb; cases hb
    rw [upd_ne nb, upd_ne nx.2, upd_ne nx.1]; exact hx
section
variable {P : Program} {w : World} {K : PySem.W.Frag} {mg : Str → Option Value} {base : Heap} {f : Addr} {fd : FuncData} {pa : Arguments} {bd : List Stmt} {sc : Scope}
theorem ok_box {q0 q1 q2 q3 q4 q5 q6 q7 q8 q9 q10 q11 q12 q13 : Pos}
    (F : FunD K "_law_box" "_law_box" pa bd sc [] [] f fd) (S : FnScope ["script"] ["script"] sc) (l0 : sc.names.lookup ("script" : Str) = some .local) (g1 : sc.names.lookup ("list" : Str) = some .globalImplicit) (g2 : sc.names.lookup ("len" : Str) = some .globalImplicit)
    (hb : bd = B_law_box q0 q1 q2 q3 q4 q5 q6 q7 q8 q9 q10 q11 q12 q13) (mT : mg "list" = none) (mL : mg "len" = none) : FnOk P w K mg base CX0 1 f fd ["script"] (spBox K) := by
  refine F.ok S (fun vs H Q E h => ?_) (fun cdv A outer s H vs Q E hr h => ⟨tBox K, PSs.nox ?pss, box_run vs H Q E h⟩)
  · obtain ⟨a, ns, rfl, _⟩ := h
    rfl
  case pss =>
    rw [hb]
    have v0 : ∀ p, PE (cxOf CX0 P w K mg base ["script"] "_law_box" sc f cdv A outer s H E).nox (.Name "script" p) (tVar 0) := fun p => pe_var rfl (.inl l0)
    exact pss_one (ps_ret (pe_lst (pa_cons (pe_callTy call_list_of g1 mT PyProof.Rows.boot_list (pa_cons (pe_slice sl_list (v0 _) po_none (po_some pe_int)) pa_nil) (by decide) (by decide) rfl rfl) (pa_cons pe_int (pa_cons (pe_op op_add pe_int (pe_callB call_len g2 mL PySem.boot_len (pa_cons (v0 _) pa_nil))) pa_nil)))))
end
end TL

set_option Elab.async false
set_option linter.all false
set_option maxRecDepth 100000
set_option maxHeartbeats 16000000
/-! TLp: the law's def: first its box, then the rest by its tree; helps for the plain part. -/
namespace TL
open PySem PySem.Spec PyProof.Rows L2
/-- what the law promises -/
def spLaw (K : PySem.W.Frag) : Sp := fun vs H Q _ => ∃ (a : Addr) (ns : List Int), vs = [.ref a] ∧ SqL K H a (ns.map V.int) ∧ ns.length ≤ 63 ∧ ∀ H', Q (.bl true) H'
/-- where the law's rest begins: script is not looked at, box is the tape -/
def law0 (n : Nat) : TS := Sl.no :: Sl.val .tape :: List.replicate (n - 2) Sl.no
/-- what is wanted of the law's rest -/
def lawD : En := { nx := fun _ => False, rt := fun t => t = .bl true, bk := fun _ => False, ct := fun _ => False }
section
variable {G : Gm} {Γ : GN} {k : Nat} {P : Program} {w : World} {K : PySem.W.Frag} {mg : Str → Option Value} {base : Heap} {f fb : Addr} {fd fdb : FuncData} {pa : Arguments} {bd rest : List Stmt} {sc : Scope} {N : List Str}
theorem law_ok {q0 q1 q2 q3 q4 : Pos} (g : GlobOk G Γ k P w K mg base) (F : FunD K "law" "law" pa bd sc [] [] f fd) (hN : N = ("script" : Str) :: ("box" : Str) :: N.drop 2) (S : FnScope N ["script"] sc) (l0 : sc.names.lookup ("script" : Str) = some .local) (l1 : locB sc ("box" : Str) = true) (g1 : sc.names.lookup ("_law_box" : Str) = some .globalImplicit)
    (hb : bd = .Assign [.Name "box" q0] (.Call (.Name "_law_box" q1) [.Name "script" q2] [] q3) q4 :: rest) (GB : FnOk P w K mg base CX0 k fb fdb ["script"] (spBox K)) (mB : mg "_law_box" = some (.ref fb)) (kB : PySem.W.keepIn K (.ref fb) = true) (bB : Binds K fdb ["script"] [])
    (ir : List TL.S) (chk : chkSs Γ N false sc ir rest = true) (hw : wSs G ir lawD (law0 N.length)) : FnOk P w K mg base CX0 (k + 1) f fd ["script"] (spLaw K) := by
  refine F.ok S (fun vs H Q E h => ?_) (fun cdv A outer s H vs Q E hr h => ?_)
  · obtain ⟨a, ns, rfl, _⟩ := h
    rfl
  obtain ⟨N2, hN2⟩ : ∃ N2, N = ("script" : Str) :: ("box" : Str) :: N2 := ⟨_, hN⟩
  clear hN
  subst hN2
  have e0 : (("script" : Str) :: ("box" : Str) :: N2)[0]? = some ("script" : Str) := rfl
  have e1 : (("script" : Str) :: ("box" : Str) :: N2)[1]? = some ("box" : Str) := rfl
  have b := g.cx (outer := outer) (H := H) (E := E) S hr
  refine ⟨tSeq (tAsg (tCall (spBox K) [] E0 (tCons (tVar 0) tNil)) (gName 1)) (fun D σ H => ∃ tp, ssOf K G tp false ir D σ H), PSs.nox ?_, ?_⟩
  · rw [hb]
    refine pss_cons (ps_set (i := 1) S.nd e1 (b.loc l1) (pe_call GB hr g1 mB kB bB .nil pass0 (pa_cons (pe_var e0 (.inl l0)) pa_nil)) rfl (.inl (b.fn _))) ⟨fun pins s1 σ H1 D I ⟨tp, q⟩ => ?_⟩
    exact (sndSs (tp := tp) (fr := false) ir _ sc rest b chk).run pins s1 σ H1 D I q
  · obtain ⟨a, ns, rfl, ha, hz, q⟩ := h
    have hs : L2.start (("script" : Str) :: ("box" : Str) :: N2) [V.ref a] = some (V.ref a) :: none :: List.replicate N2.length none := rfl
    rw [hs]
    refine ⟨_, rfl, ⟨a, ns, rfl, ha, hz, fun b c H' t kp => ?_⟩⟩
    have ln : ((("script" : Str) :: ("box" : Str) :: N2 : List Str)).length - 2 = N2.length := rfl
    have lw : law0 ((("script" : Str) :: ("box" : Str) :: N2 : List Str)).length = Sl.no :: Sl.val .tape :: List.replicate N2.length Sl.no := rfl
    rw [lw] at hw
    refine ⟨some (b, c), H', Sl.no :: Sl.val .tape :: List.replicate N2.length Sl.no, lawD, ?_, hw, ?_⟩
    · show RS K (some (b, c)) H' (Sl.no :: Sl.val .tape :: List.replicate N2.length Sl.no) (some (V.ref a) :: some (V.ref b) :: List.replicate N2.length none) H'
      have get : ∀ (i : Nat) (x : Sl), (Sl.no :: Sl.val .tape :: List.replicate N2.length Sl.no)[i]? = some x → x = .no ∨ (i = 1 ∧ x = .val .tape) := fun i x h => by
        match i, h with
        | 0, h => exact .inl (Option.some.inj h).symm
        | 1, h => exact .inr ⟨rfl, (Option.some.inj h).symm⟩
        | i + 2, h =>
          simp only [List.getElem?_cons_succ, List.getElem?_replicate] at h
          split at h
          · cases h; exact .inl rfl
          · cases h
      exact {
        len := by simp only [List.length_cons, List.length_replicate]
        val := fun i t' h => by
          rcases get i _ h with z | ⟨rfl, z⟩
          · cases z
          · cases z
            exact ⟨.ref b, rfl, by simp only [RT]; exact ⟨b, c, rfl, rfl⟩⟩
        own := fun i t' h => by rcases get i _ h with z | ⟨_, z⟩ <;> cases z
        inj := fun i j t' u p h => by rcases get i _ h with z | ⟨_, z⟩ <;> cases z
        kp := Kp.refl
        tp0 := t
        tpo := t }
    · refine ⟨fun σt σ H2 r _ h => h.elim, fun σt σ H2 r _ h => h.elim, fun σt σ H2 r _ h => h.elim, fun u v H2 k1 t1 n h => ?_⟩
      cases (show u = .bl true from h)
      have n' : v = .bl true := by simpa [RT] using n
      subst n'
      exact q H2
end
/-! ### defs that call themselves -/
def Gm.put (G : Gm) (n : Nat) (sp : List T → (T → Prop) → Prop) : Gm := { G with fn := fun i => if i = n then sp else G.fn i }
section
variable {G G' : Gm} {k k' : Nat} {P : Program} {w : World} {K : PySem.W.Frag} {mg : Str → Option Value} {base : Heap} {fns : List (Str × Bool)} {cs bl : List Str} {n : Nat}
theorem FnFact.mono {sp : List T → (T → Prop) → Prop} {x : Str} {fr : Bool} (h : FnFact P w K mg base k sp x fr) (le : k ≤ k') : FnFact P w K mg base k' sp x fr := by
  obtain ⟨f, fd, ps, h1, h2, h3, h4⟩ := h
  exact ⟨f, fd, ps, h1, h2, h3, h4.mono le⟩
theorem GlobOk.lift {Γ : GN} (g : GlobOk G Γ k P w K mg base) (le : k ≤ k') : GlobOk G Γ k' P w K mg base :=
  ⟨g.bl, g.cs, fun i x fr e => (g.fn i x fr e).mono le⟩
theorem GlobOk.put {sp : List T → (T → Prop) → Prop} (g : GlobOk G ⟨fns.take n, cs, bl⟩ k P w K mg base) : GlobOk (G.put n sp) ⟨fns.take n, cs, bl⟩ k P w K mg base :=
  ⟨g.bl, g.cs, fun i x fr e => by
    have lt : i < n := by
      have := (List.getElem?_eq_some_iff.mp e).1
      rw [List.length_take] at this
      omega
    show FnFact P w K mg base k (if i = n then sp else G.fn i) x fr
    rw [if_neg (by omega)]
    exact g.fn i x fr e⟩
theorem fn_none {x qual : Str} {params : Arguments} {body : List Stmt} {scope : Scope} {f : Addr} {fd : FuncData} (hm : mg x = some (.ref f)) (F : FunD K x qual params body scope [] [] f fd) {N ps : List Str} (S : FnScope N ps scope) {fr : Bool}
    (hb : ∀ (kV doc pm : Value) (an : Option Addr) (cdv ct : Value) (us : List Value), us.length = ps.length → bindArgs (PySem.W.fnOf x qual params body scope .none kV doc pm an cdv ct) ⟨us, []⟩ = pure (ps.zip us))
    {sp : List T → (T → Prop) → Prop} (h0 : ∀ ts Q, ¬ sp ts Q) : FnFact P w K mg base (k + 1) sp x fr :=
  ⟨f, fd, ps, hm, F.kp, F.bindsN hb, F.ok S (fun vs H QL E h => by
    obtain ⟨_, ts, Q, _, _, w, _⟩ := h
    exact absurd w (h0 ts Q)) (fun cdv A outer s H vs QL E hr h => by
    obtain ⟨_, ts, Q, _, _, w, _⟩ := h
    exact absurd w (h0 ts Q))⟩
theorem fn_rec (g : GlobOk G ⟨fns.take n, cs, bl⟩ k P w K mg base) {x qual : Str} {params : Arguments} {body : List Stmt} {scope : Scope} {f : Addr} {fd : FuncData} (hm : mg x = some (.ref f)) (F : FunD K x qual params body scope [] [] f fd) {N ps : List Str} (S : FnScope N ps scope) {fr : Bool} (hn : fns[n]? = some (x, fr)) (ir : List TL.S)
    (hb : ∀ (kV doc pm : Value) (an : Option Addr) (cdv ct : Value) (us : List Value), us.length = ps.length → bindArgs (PySem.W.fnOf x qual params body scope .none kV doc pm an cdv ct) ⟨us, []⟩ = pure (ps.zip us))
    (chk : chkSs ⟨fns.take (n + 1), cs, bl⟩ N fr scope ir body = true) (sp : Nat → List T → (T → Prop) → Prop) (h0 : ∀ ts Q, ¬ sp 0 ts Q) (hs : ∀ d ts Q, sp (d + 1) ts Q → wFn (G.put n (sp d)) fr ⟨ps.length, N.length, ir⟩ ts Q) : ∀ d, FnFact P w K mg base (k + d + 1) (sp d) x fr
  | 0 => fn_none hm F S hb h0
  | d + 1 => by
    have ih := fn_rec g hm F S hn ir hb chk sp h0 hs d
    have g1 : GlobOk (G.put n (sp d)) ⟨fns.take n, cs, bl⟩ (k + d) P w K mg base := (g.put (sp := sp d)).lift (by omega)
    have g2 : GlobOk (G.put n (sp d)) ⟨fns.take (n + 1), cs, bl⟩ (k + d + 1) P w K mg base := g1.more hn (by
      show FnFact P w K mg base (k + d + 1) (if n = n then sp d else G.fn n) x fr
      rw [if_pos rfl]
      exact ih)
    exact fn_fact g2 hm F S ir hb chk (hs d)
end
/-! ### helps for the plain part -/
section
variable {G : Gm}
/-- a walk by an invariant told by the number of steps done -/
theorem wFor_inv {body : En → TS → Prop} {tg : Tg} {D : En} (I : Nat → TS → Prop) (xs : List T) (step : ∀ (i : Nat) (x : T) (σ : TS) (nx : TS → Prop), xs[i]? = some x → I i σ → (∀ σ', I (i + 1) σ' → nx σ') → asg tg x σ fun σ' => body { D with nx := nx, ct := nx, bk := D.nx } σ')
    (fin : ∀ σ, I xs.length σ → D.nx σ) : ∀ σ, I 0 σ → wFor body tg D xs σ := by
  have go : ∀ (n i : Nat) (σ : TS), xs.length - i = n → i ≤ xs.length → I i σ → wFor body tg D (xs.drop i) σ := fun n => by
    induction n with
    | zero =>
      intro i σ e le h
      have : i = xs.length := by omega
      subst this
      rw [List.drop_length]
      exact fin σ h
    | succ n ih =>
      intro i σ e le h
      have lt : i < xs.length := by omega
      rw [List.drop_eq_getElem_cons lt]
      exact step i _ σ _ (List.getElem?_eq_getElem lt) h fun σ' h' => ih (i + 1) σ' (by omega) lt h'
  intro σ h
  have := go _ 0 σ rfl (Nat.zero_le _) h
  rwa [List.drop_zero] at this
/-- a walk that makes a list, element by element -/
theorem wFold_map {f : T → List T → (List T → Prop) → Prop} {Q : List T → Prop} {g : T → List T} {xs acc : List T} (h : ∀ x ∈ xs, ∀ acc k, k (acc ++ g x) → f x acc k) (q : Q (acc ++ (xs.map g).flatten)) : wFold f xs acc Q := by
  induction xs generalizing acc with
  | nil => simp only [List.map_nil, List.flatten_nil, List.append_nil] at q; exact q
  | cons x r ih =>
    refine h x List.mem_cons_self acc _ (ih (fun y hy => h y (List.mem_cons_of_mem _ hy)) ?_)
    simpa [List.append_assoc] using q
theorem seqOf_rng {a : Int} {n : Nat} {Q : List T → Prop} (h : Q (rngL a n)) : seqOf (.lst (rngL a n)) Q := h
theorem rngL_get {a : Int} {n i : Nat} {x : T} (h : (rngL a n)[i]? = some x) : i < n ∧ x = .int (a + i) := by
  unfold rngL at h
  rw [List.getElem?_map] at h
  by_cases hi : i < n
  · rw [List.getElem?_range hi] at h
    simp only [Option.map_some, Option.some.injEq] at h
    exact ⟨hi, h.symm⟩
  · rw [List.getElem?_eq_none (by simp; omega)] at h
    cases h
theorem rngL_mem {a : Int} {n : Nat} {x : T} (h : x ∈ rngL a n) : ∃ i : Nat, i < n ∧ x = .int (a + i) := by
  obtain ⟨i, hi⟩ := List.mem_iff_getElem?.mp h
  exact ⟨i, rngL_get hi⟩
theorem rngL_len (a : Int) (n : Nat) : (rngL a n).length = n := by unfold rngL; simp
theorem intsOf_map (ns : List Int) : intsOf (ns.map T.int) = some ns := by
  induction ns with
  | nil => rfl
  | cons n r ih => simp only [List.map_cons, intsOf, ih, Option.map_some]
theorem blsOf_map (ns : List Bool) : blsOf (ns.map T.bl) = some ns := by
  induction ns with
  | nil => rfl
  | cons n r ih => simp only [List.map_cons, blsOf, ih, Option.map_some]
theorem rngL_map (a : Int) (n : Nat) (g : Int → T) : (rngL a n).map (fun x => match x with | .int i => g i | _ => .non) = (List.range n).map fun k => g (a + (k : Nat)) := by
  unfold rngL
  rw [List.map_map]
  rfl
end
end TL

set_option Elab.async false
set_option linter.all false
set_option maxRecDepth 100000
set_option maxHeartbeats 16000000
/-! TLq: _law_same, for all laws. -/
namespace TL
open PySem PySem.Spec PyProof.Rows L2
mutual
/-- the same, and of one kind throughout -/
def same : T → T → Bool
  | .tup xs, .tup ys => sameL xs ys
  | .lst xs, .lst ys => sameL xs ys
  | .bl a, .bl b => decide (a = b)
  | .int i, .int j => decide (i = j)
  | .str x, .str y => decide (x = y)
  | .non, .non => true
  | _, _ => false
def sameL : List T → List T → Bool
  | [], [] => true
  | x :: xs, y :: ys => same x y && sameL xs ys
  | _, _ => false
end
def irSame (n : Nat) : List TL.S := [
    .ite (.or (.and (.isi .tup (.var 0)) (.isi .tup (.var 1))) (.and (.isi .lst (.var 0)) (.isi .lst (.var 1)))) [
      .ret (.and (.cmp .eq (.b1 .len (.var 0)) (.b1 .len (.var 1))) (.b1 .all (.comp (.call n [(.idx (.var 0) (.var 2)), (.idx (.var 1) (.var 2))]) (.nm 2) (.rng (.int 0) (.b1 .len (.var 0))) (.bl true) [2])))] [],
    .ite (.or (.isi .bool (.var 0)) (.isi .bool (.var 1))) [
      .ret (.and (.isi .bool (.var 0)) (.and (.isi .bool (.var 1)) (.cmp .eq (.var 0) (.var 1))))] [],
    .ite (.or (.and (.isi .int (.var 0)) (.isi .int (.var 1))) (.and (.isi .str (.var 0)) (.isi .str (.var 1)))) [
      .ret (.cmp .eq (.var 0) (.var 1))] [],
    .ret (.and (.cmp .is_ (.var 0) .non) (.cmp .is_ (.var 1) .non))]
mutual
/-- the longest sequence in it -/
def T.wid : T → Nat
  | .tup ts => max ts.length (widAll ts)
  | .lst ts => max ts.length (widAll ts)
  | _ => 0
def widAll : List T → Nat
  | [] => 0
  | t :: ts => max t.wid (widAll ts)
end
theorem widAll_mem {t : T} : ∀ {ts : List T}, t ∈ ts → t.wid ≤ widAll ts
  | x :: r, h => by
    rw [widAll]
    rcases List.mem_cons.mp h with rfl | h
    · exact Nat.le_max_left _ _
    · exact Nat.le_trans (widAll_mem h) (Nat.le_max_right _ _)
/-- two plain trees, not deeper than d - 1 -/
def spSame (d : Nat) (ts : List T) (Q : T → Prop) : Prop := ∃ a b, ts = [a, b] ∧ a.pl = true ∧ b.pl = true ∧ a.dep < d ∧ a.wid ≤ sizeLine ∧ Q (.bl (same a b))
theorem depAll_mem {t : T} : ∀ {ts : List T}, t ∈ ts → t.dep ≤ depAll ts
  | x :: r, h => by
    rw [depAll]
    rcases List.mem_cons.mp h with rfl | h
    · exact Nat.le_max_left _ _
    · exact Nat.le_trans (depAll_mem h) (Nat.le_max_right _ _)
theorem plAll_mem {t : T} {ts : List T} (h : plAll ts = true) (m : t ∈ ts) : t.pl = true := by
  rw [plAll_eq] at h
  exact List.all_eq_true.mp h t m
theorem sameL_all {xs ys : List T} (h : xs.length = ys.length) : sameL xs ys = ((List.range xs.length).map fun k => same (xs.getD k .non) (ys.getD k .non)).all id := by
  induction xs generalizing ys with
  | nil =>
    cases ys with
    | nil => rfl
    | cons => simp at h
  | cons x r ih =>
    cases ys with
    | nil => simp at h
    | cons y t =>
      rw [sameL, ih (by simpa using h), List.length_cons, List.range_succ_eq_map]
      simp only [List.map_cons, List.map_map, List.all_cons, id, List.getD_cons_zero]
      rfl
theorem sameL_ne {xs ys : List T} (h : xs.length ≠ ys.length) : sameL xs ys = false := by
  induction xs generalizing ys with
  | nil =>
    cases ys with
    | nil => simp at h
    | cons => rfl
  | cons x r ih =>
    cases ys with
    | nil => rfl
    | cons y t =>
      rw [sameL, ih (by simpa using h), Bool.and_false]
theorem atI_nat {xs : List T} {k : Nat} (h : k < xs.length) : atI xs (k : Int) = some (xs.getD k .non) := by
  unfold atI ixN
  rw [if_pos (by omega), if_pos (by omega)]
  simp [List.getD_eq_getElem?_getD, List.getElem?_eq_getElem h]
theorem EqOk_int (i j : Int) : EqOk (.int i) (.int j) := ⟨rfl, rfl, (show min 0 0 ≤ 60 by decide)⟩
theorem EqOk_bl (i j : Bool) : EqOk (.bl i) (.bl j) := ⟨rfl, rfl, (show min 0 0 ≤ 60 by decide)⟩
theorem EqOk_str (i j : Str) : EqOk (.str i) (.str j) := ⟨rfl, rfl, (show min 0 0 ≤ 60 by decide)⟩
theorem teq_bl (i j : Bool) : teq (.bl i) (.bl j) = decide (i = j) := by cases i <;> cases j <;> rfl
theorem teq_str (i j : Str) : teq (.str i) (.str j) = decide (i = j) := by unfold teq; rfl
theorem teq_int (i j : Int) : teq (.int i) (.int j) = decide (i = j) := by unfold teq; rfl
/-- all pairs of two sequences -/
theorem all_part {G : Gm} {n d : Nat} {xs ys : List T} {a b : T} {Q : K1} (ea : (a = .tup xs ∧ b = .tup ys) ∨ (a = .lst xs ∧ b = .lst ys)) (hl : xs.length = ys.length) (p1 : plAll xs = true) (p2 : plAll ys = true) (hd : depAll xs < d) (hw : max xs.length (widAll xs) ≤ sizeLine) (q : Q (.bl (sameL xs ys))) :
    wFold (fun x acc k => asg (.nm 2) x [.val a, .val b, .no] fun σ' => wEs (G.put n (spSame d)) [(.idx (.var 0) (.var 2)), (.idx (.var 1) (.var 2))] σ' fun ts => (G.put n (spSame d)).fn n ts fun y => k (acc ++ [y])) (rngL 0 xs.length) [] fun ys => b1F .all (.lst ys) Q := by
  refine wFold_map (g := fun x => match x with | .int i => [.bl (same (xs.getD i.toNat .non) (ys.getD i.toNat .non))] | _ => []) (fun x hx acc k hk => ?_) ?_
  · obtain ⟨i, hi, rfl⟩ := rngL_mem hx
    have i1 : idxF a (.int ((0 : Int) + i)) = fun Q => ∃ v, atI xs ((0 : Int) + i) = some v ∧ Q v := by rcases ea with ⟨rfl, rfl⟩ | ⟨rfl, rfl⟩ <;> rfl
    have i2 : idxF b (.int ((0 : Int) + i)) = fun Q => ∃ v, atI ys ((0 : Int) + i) = some v ∧ Q v := by rcases ea with ⟨rfl, rfl⟩ | ⟨rfl, rfl⟩ <;> rfl
    have e0 : ((0 : Int) + i) = (i : Int) := by omega
    simp only [asg, wEs, wE, slV, List.set]
    rw [i1, i2, e0]
    refine ⟨_, atI_nat hi, _, atI_nat (hl ▸ hi), ?_⟩
    show (if n = n then spSame d else G.fn n) _ _
    rw [if_pos rfl]
    have m1 : xs.getD i .non ∈ xs := by rw [List.getD_eq_getElem?_getD, List.getElem?_eq_getElem hi]; exact List.getElem_mem hi
    have m2 : ys.getD i .non ∈ ys := by rw [List.getD_eq_getElem?_getD, List.getElem?_eq_getElem (hl ▸ hi)]; exact List.getElem_mem _
    refine ⟨_, _, rfl, plAll_mem p1 m1, plAll_mem p2 m2, by have := depAll_mem m1; omega, by have := widAll_mem m1; omega, ?_⟩
    simpa [e0] using hk
  · simp only [List.nil_append, b1F]
    refine ⟨(List.range xs.length).map fun k => same (xs.getD k .non) (ys.getD k .non), ?_, ?_⟩
    · have : ((rngL 0 xs.length).map fun x => match x with | .int i => [T.bl (same (xs.getD i.toNat .non) (ys.getD i.toNat .non))] | _ => []).flatten = ((List.range xs.length).map fun k => same (xs.getD k .non) (ys.getD k .non)).map T.bl := by
        unfold rngL
        rw [List.map_map, List.map_map]
        have : ∀ l : List Nat, (l.map ((fun x => match x with | .int i => [T.bl (same (xs.getD i.toNat .non) (ys.getD i.toNat .non))] | _ => []) ∘ fun (k : Nat) => T.int (0 + (k : Int)))).flatten = l.map (T.bl ∘ fun k => same (xs.getD k .non) (ys.getD k .non)) := fun l => by
          induction l with
          | nil => rfl
          | cons k r ih =>
            rw [List.map_cons, List.flatten_cons, ih, List.map_cons]
            have e0 : ((0 : Int) + (k : Int)).toNat = k := by omega
            simp [e0]
        exact this _
      rw [this]
      exact blsOf_map _
    · rw [← sameL_all hl]
      exact q
theorem w_same {G : Gm} {n d : Nat} (ts : List T) (Q : T → Prop) (h : spSame (d + 1) ts Q) : wFn (G.put n (spSame d)) false ⟨2, 3, irSame n⟩ ts Q := by
  obtain ⟨a, b, rfl, p1, p2, hd, hw, q⟩ := h
  refine ⟨rfl, ?_⟩
  show wSs _ (irSame n) _ [.val a, .val b, .no]
  have sz : sizeLine = 16777216 := sizeLine_eq
  have seq : ∀ xs ys : List T, ((a = .tup xs ∧ b = .tup ys) ∨ (a = .lst xs ∧ b = .lst ys)) → plAll xs = true → plAll ys = true → depAll xs < d → max xs.length (widAll xs) ≤ sizeLine → Q (.bl (sameL xs ys)) → wSs (G.put n (spSame d)) (irSame n) { nx := fun _ => if false = true then False else Q .non, rt := Q, bk := fun _ => False, ct := fun _ => False } [.val a, .val b, .no] := fun xs ys ea p1 p2 hd hw q => by
    have l1 : b1F .len a = fun Q => Q (.int xs.length) := by rcases ea with ⟨rfl, rfl⟩ | ⟨rfl, rfl⟩ <;> rfl
    have l2 : b1F .len b = fun Q => Q (.int ys.length) := by rcases ea with ⟨rfl, rfl⟩ | ⟨rfl, rfl⟩ <;> rfl
    have core : wS (G.put n (spSame d)) (.ret (.and (.cmp .eq (.b1 .len (.var 0)) (.b1 .len (.var 1))) (.b1 .all (.comp (.call n [(.idx (.var 0) (.var 2)), (.idx (.var 1) (.var 2))]) (.nm 2) (.rng (.int 0) (.b1 .len (.var 0))) (.bl true) [2]))))
      { nx := fun σ' => wSs (G.put n (spSame d)) [] { nx := fun σ' => True, rt := Q, bk := fun _ => False, ct := fun _ => False } σ', rt := Q, bk := fun _ => False, ct := fun _ => False } [.val a, .val b, .no] := by
      simp only [wS, wE, slV, l1, l2, cmp2, tru, EqOk_int, true_and, teq_int]
      by_cases hl : xs.length = ys.length
      · have : decide ((xs.length : Int) = (ys.length : Int)) = true := decide_eq_true (by omega)
        simp only [this, if_true]
        refine ⟨_, _, rfl, rfl, ⟨by decide, by decide, by omega, by omega⟩, by omega, ?_⟩
        have e : ((xs.length : Int) - 0).toNat = xs.length := by omega
        rw [e]
        simp only [seqOf, wipeT, List.set, tru, if_true]
        exact all_part ea hl p1 p2 hd hw q
      · have : decide ((xs.length : Int) = (ys.length : Int)) = false := decide_eq_false (by omega)
        simp only [this, Bool.false_eq_true, if_false]
        rw [sameL_ne hl] at q
        exact q
    simp only [wS] at core
    rcases ea with ⟨rfl, rfl⟩ | ⟨rfl, rfl⟩
    · simpa only [irSame, wSs, wS, wE, slV, isiF, Option.some.injEq, exists_eq_left', tru, if_true, tst] using core
    · simpa only [irSame, wSs, wS, wE, slV, isiF, Option.some.injEq, exists_eq_left', tru, if_true, tst, Bool.false_eq_true, if_false] using core
  have dp : ∀ {xs : List T}, depAll xs + 1 < d + 1 → depAll xs < d := fun h => by omega
  cases a <;> cases b
  case tup.tup xs ys => exact seq xs ys (.inl ⟨rfl, rfl⟩) (by simpa only [T.pl] using p1) (by simpa only [T.pl] using p2) (dp (by simpa only [T.dep] using hd)) (by simpa only [T.wid] using hw) (by simpa only [same] using q)
  case lst.lst xs ys => exact seq xs ys (.inr ⟨rfl, rfl⟩) (by simpa only [T.pl] using p1) (by simpa only [T.pl] using p2) (dp (by simpa only [T.dep] using hd)) (by simpa only [T.wid] using hw) (by simpa only [same] using q)
  all_goals first
    | (exfalso; simp [T.pl] at p1; done)
    | (exfalso; simp [T.pl] at p2; done)
    | (simp only [irSame, wSs, wS, wE, slV, isiF, Option.some.injEq, exists_eq_left', tru, tst, Bool.false_eq_true, if_false, if_true, cmp2, EqOk_int, EqOk_bl, EqOk_str, teq_int, teq_bl, teq_str, true_and, isT]; simpa only [same] using q)
end TL

set_option Elab.async false
set_option linter.all false
set_option maxRecDepth 100000
set_option maxHeartbeats 16000000
/-! TLr: the program's and the laws' ratios: divisor_of, ratio_of, sum_of, .., _law_ratio, .., by the rationals. -/
namespace TL
open PySem PySem.Spec PyProof.Rows L2
def rT (x : Rat) : T := .tup [.int x.num, .int x.den]
/-- of less than k bits -/
def RBd (k : Nat) (x : Rat) : Prop := x.num.natAbs < 2 ^ k ∧ x.den < 2 ^ k
theorem RBd.mono {k l : Nat} {x : Rat} (h : RBd k x) (le : k ≤ l) : RBd l x :=
  ⟨Nat.lt_of_lt_of_le h.1 (Nat.pow_le_pow_right (by decide) le), Nat.lt_of_lt_of_le h.2 (Nat.pow_le_pow_right (by decide) le)⟩
theorem log_lt {n k : Nat} (h : n < 2 ^ k) (hk : 0 < k) : n.log2 < k := by
  rcases Nat.eq_zero_or_pos n with z | z
  · subst z; simpa using hk
  · have := Nat.log2_self_le (n := n) (by omega)
    exact (Nat.pow_lt_pow_iff_right (by decide : 1 < 2)).mp (Nat.lt_of_le_of_lt this h)
theorem mulOk_lt {i j : Int} {k l : Nat} (h1 : i.natAbs < 2 ^ k) (h2 : j.natAbs < 2 ^ l) (hk : 0 < k) (hl : 0 < l) (h : k + l < 1000000) : MulOk i j := by
  have := log_lt h1 hk
  have := log_lt h2 hl
  exact .inr (.inr (by omega))
theorem divOk_lt {j : Int} (h0 : 0 < j) (h : j.natAbs < 2 ^ 8999) : DivOk j := ⟨h0, by have := log_lt h (by decide); omega⟩
def spGcd (ts : List T) (Q : T → Prop) : Prop := ∃ a b : Int, ts = [.int a, .int b] ∧ Q (.int (Int.gcd a b))
def spRat (ts : List T) (Q : T → Prop) : Prop := ∃ p q : Int, ts = [.int p, .int q] ∧ q ≠ 0 ∧ p.natAbs < 2 ^ 8000 ∧ q.natAbs < 2 ^ 8000 ∧ Q (rT (Rat.divInt p q))
def spSum (ts : List T) (Q : T → Prop) : Prop := ∃ x y : Rat, ts = [rT x, rT y] ∧ RBd 3000 x ∧ RBd 3000 y ∧ Q (rT (x + y))
def spLessOf (ts : List T) (Q : T → Prop) : Prop := ∃ x y : Rat, ts = [rT x, rT y] ∧ RBd 3000 x ∧ RBd 3000 y ∧ Q (rT (x - y))
def spTimes (ts : List T) (Q : T → Prop) : Prop := ∃ x y : Rat, ts = [rT x, rT y] ∧ RBd 3000 x ∧ RBd 3000 y ∧ Q (rT (x * y))
def spBelow (ts : List T) (Q : T → Prop) : Prop := ∃ x y : Rat, ts = [rT x, rT y] ∧ RBd 3000 x ∧ RBd 3000 y ∧ Q (.bl (decide (x < y)))
def spFloor (ts : List T) (Q : T → Prop) : Prop := ∃ x : Rat, ts = [rT x] ∧ RBd 3000 x ∧ Q (.int x.floor)
def isWh : T → Bool
  | .int _ => true
  | _ => false
def spWhole (ts : List T) (Q : T → Prop) : Prop := ∃ t, ts = [t] ∧ t.pl = true ∧ Q (.bl (isWh t))
def isRt : T → Bool
  | .tup [.int p, .int q] => decide (0 < q) && (decide ((Rat.divInt p q).num = p) && decide (((Rat.divInt p q).den : Int) = q))
  | _ => false
/-- a plain value; a pair of ints in it is not too long -/
def spIsR (ts : List T) (Q : T → Prop) : Prop := ∃ t, ts = [t] ∧ t.pl = true ∧ (∀ p q, t = .tup [.int p, .int q] → p.natAbs < 2 ^ 8000 ∧ q.natAbs < 2 ^ 8000) ∧ Q (.bl (isRt t))
def irWhole : List TL.S := [.ret (.and (.isi .int (.var 0)) (.not (.isi .bool (.var 0))))]
def irGcd : List TL.S := [
    .par [(false, 0), (false, 1)] [(.b1 .abs (.var 0)), (.b1 .abs (.var 1))],
    .whl (.var 1) [.par [(false, 0), (false, 1)] [(.var 1), (.bin .mod (.var 0) (.var 1))]],
    .ret (.var 0)]
def irRat (d : Nat) : List TL.S := [
    .ite (.cmp .lt (.var 1) (.int 0)) [.par [(false, 0), (false, 1)] [(.neg (.var 0)), (.neg (.var 1))]] [],
    .asg (.nm 2) (.call d [(.var 0), (.var 1)]),
    .ret (.tup [(.bin .fdiv (.var 0) (.var 2)), (.bin .fdiv (.var 1) (.var 2))])]
def irIsR (w r : Nat) : List TL.S := [
    .ite (.or (.not (.isi .tup (.var 0))) (.or (.cmp .ne (.b1 .len (.var 0)) (.int 2)) (.or (.not (.call w [(.idx (.var 0) (.int 0))])) (.not (.call w [(.idx (.var 0) (.int 1))]))))) [.ret (.bl false)] [],
    .ret (.and (.cmp .gt (.idx (.var 0) (.int 1)) (.int 0)) (.cmp .eq (.call r [(.idx (.var 0) (.int 0)), (.idx (.var 0) (.int 1))]) (.var 0)))]
def irSum (r : Nat) : List TL.S := [.ret (.call r [(.bin .add (.bin .mul (.idx (.var 0) (.int 0)) (.idx (.var 1) (.int 1))) (.bin .mul (.idx (.var 1) (.int 0)) (.idx (.var 0) (.int 1)))), (.bin .mul (.idx (.var 0) (.int 1)) (.idx (.var 1) (.int 1)))])]
def irLessOf (r : Nat) : List TL.S := [.ret (.call r [(.bin .sub (.bin .mul (.idx (.var 0) (.int 0)) (.idx (.var 1) (.int 1))) (.bin .mul (.idx (.var 1) (.int 0)) (.idx (.var 0) (.int 1)))), (.bin .mul (.idx (.var 0) (.int 1)) (.idx (.var 1) (.int 1)))])]
def irTimes (r : Nat) : List TL.S := [.ret (.call r [(.bin .mul (.idx (.var 0) (.int 0)) (.idx (.var 1) (.int 0))), (.bin .mul (.idx (.var 0) (.int 1)) (.idx (.var 1) (.int 1)))])]
def irBelow : List TL.S := [.ret (.cmp .lt (.bin .mul (.idx (.var 0) (.int 0)) (.idx (.var 1) (.int 1))) (.bin .mul (.idx (.var 1) (.int 0)) (.idx (.var 0) (.int 1))))]
def irFloor : List TL.S := [.ret (.bin .fdiv (.idx (.var 0) (.int 0)) (.idx (.var 0) (.int 1)))]
def irLawRat : List TL.S := [
    .par [(false, 2), (false, 3)] [(.b1 .abs (.var 0)), (.b1 .abs (.var 1))],
    .whl (.cmp .ne (.var 3) (.int 0)) [.par [(false, 2), (false, 3)] [(.var 3), (.bin .sub (.var 2) (.bin .mul (.bin .fdiv (.var 2) (.var 3)) (.var 3)))]],
    .ret (.ite (.cmp .gt (.var 1) (.int 0)) (.tup [(.bin .fdiv (.var 0) (.var 2)), (.bin .fdiv (.var 1) (.var 2))]) (.tup [(.bin .fdiv (.neg (.var 0)) (.var 2)), (.bin .fdiv (.neg (.var 1)) (.var 2))]))]
section
variable {G : Gm}
theorem w_whole (ts : List T) (Q : T → Prop) (h : spWhole ts Q) : wFn G false ⟨1, 1, irWhole⟩ ts Q := by
  obtain ⟨t, rfl, hp, q⟩ := h
  refine ⟨rfl, ?_⟩
  show wSs G irWhole _ [.val t]
  cases t
  all_goals first
    | (exfalso; simp [T.pl] at hp; done)
    | (simp only [irWhole, wSs, wS, TL.wE, slV, isiF, Option.some.injEq, exists_eq_left', tru, if_true, Bool.false_eq_true, if_false, Bool.not_false, Bool.not_true]; simpa only [isWh] using q)
theorem abs_nat (i : Int) : (if i < 0 then -i else i) = (i.natAbs : Int) := by split <;> omega
theorem w_gcd (ts : List T) (Q : T → Prop) (h : spGcd ts Q) : wFn G false ⟨2, 2, irGcd⟩ ts Q := by
  obtain ⟨a, b, rfl, q⟩ := h
  refine ⟨rfl, ?_⟩
  show wSs G irGcd _ [.val (.int a), .val (.int b)]
  simp only [irGcd, wSs, wS, TL.wE, wEs, slV, b1F, abs_nat, parSet, List.set]
  refine ⟨fun k σ => ∃ x y : Nat, σ = [.val (.int x), .val (.int y)] ∧ y = k ∧ Nat.gcd x y = Int.gcd a b, ⟨_, a.natAbs, b.natAbs, rfl, rfl, rfl⟩, fun k σ hI => ?_⟩
  obtain ⟨x, y, rfl, rfl, hg⟩ := hI
  simp only [tst, TL.wE, wEs, slV, tru]
  by_cases c : y = 0
  · subst c
    simp only [Nat.gcd_zero_right] at hg
    simp only [Int.cast_ofNat_Int, bne_self_eq_false, Bool.false_eq_true, if_false, slV]
    rw [← hg] at q
    simpa using q
  · have e : ((y : Int) != 0) = true := by simp; omega
    rw [if_pos e]
    simp only [bin2, parSet, List.set]
    refine ⟨by omega, x % y, Nat.mod_lt _ (by omega), y, x % y, by simp [Int.natCast_emod], rfl, ?_⟩
    rw [← hg, Nat.gcd_comm x y, Nat.gcd_rec y x, Nat.gcd_comm]
theorem gcd_le {p q : Int} (h : q ≠ 0) : 0 < Int.gcd p q ∧ Int.gcd p q ≤ q.natAbs :=
  ⟨Int.gcd_pos_of_ne_zero_right p h, Nat.le_of_dvd (by omega) (Int.gcd_dvd_natAbs_right p q)⟩
theorem rat_parts (p q : Int) (h : q ≠ 0) : (Rat.divInt p q).num = (if q < 0 then -p else p) / (Int.gcd p q : Int) ∧ ((Rat.divInt p q).den : Int) = (if q < 0 then -q else q) / (Int.gcd p q : Int) := by
  rw [Rat.num_divInt, Rat.den_divInt, if_neg h, Int.gcd_comm q p]
  by_cases c : q < 0
  · rw [if_pos c, if_pos c, Int.sign_eq_neg_one_of_neg c]
    refine ⟨by rw [Int.neg_one_mul], ?_⟩
    rw [Int.natCast_ediv]
    congr 1
    omega
  · rw [if_neg c, if_neg c, Int.sign_eq_one_of_pos (by omega)]
    refine ⟨by rw [Int.one_mul], ?_⟩
    rw [Int.natCast_ediv]
    congr 1
    omega
theorem gcd_div {p q : Int} (h : q ≠ 0) (hq : q.natAbs < 2 ^ 8000) : DivOk (Int.gcd p q : Int) := by
  have := gcd_le (p := p) h
  refine divOk_lt (by omega) ?_
  have e : ((Int.gcd p q : Int)).natAbs = Int.gcd p q := by simp
  rw [e]
  exact Nat.lt_of_le_of_lt this.2 (Nat.lt_of_lt_of_le hq (Nat.pow_le_pow_right (by decide) (by decide)))
theorem w_rat {d : Nat} (hd : G.fn d = spGcd) (ts : List T) (Q : T → Prop) (h : spRat ts Q) : wFn G false ⟨2, 3, irRat d⟩ ts Q := by
  obtain ⟨p, q, rfl, q0, hp, hq, k⟩ := h
  refine ⟨rfl, ?_⟩
  show wSs G (irRat d) _ [.val (.int p), .val (.int q), .no]
  have e := rat_parts p q q0
  unfold rT at k
  rw [e.1, e.2] at k
  have dk := gcd_div (p := p) q0 hq
  simp only [irRat, wSs, wS, tst, TL.wE, wEs, slV, cmp2, ltF, tru]
  by_cases c : q < 0
  · rw [if_pos (decide_eq_true c)]
    rw [if_pos c, if_pos c] at k
    simp only [parSet, List.set, asg, slV, hd]
    refine ⟨p, rfl, q, rfl, -p, -q, rfl, ?_⟩
    rw [Int.gcd_neg, Int.neg_gcd]
    exact ⟨dk, dk, (show 2 ≤ 1000 by decide), k⟩
  · rw [if_neg (by simpa using c)]
    rw [if_neg c, if_neg c] at k
    simp only [parSet, List.set, asg, slV, hd]
    refine ⟨_, _, rfl, ?_⟩
    simp only [bin2]
    exact ⟨dk, dk, (show 2 ≤ 1000 by decide), k⟩
theorem atI0 (a b : T) : atI [a, b] 0 = some a := rfl
theorem atI1 (a b : T) : atI [a, b] 1 = some b := rfl
theorem bd_mul {a b : Int} (ha : a.natAbs < 2 ^ 3000) (hb : b.natAbs < 2 ^ 3000) : MulOk a b ∧ (a * b).natAbs < 2 ^ 6000 := by
  refine ⟨mulOk_lt ha hb (by decide) (by decide) (by decide), ?_⟩
  rw [Int.natAbs_mul]
  have : (2 : Nat) ^ 6000 = 2 ^ 3000 * 2 ^ 3000 := by rw [← Nat.pow_add]
  rw [this]
  exact Nat.mul_lt_mul'' ha hb
theorem bd_den {x : Rat} (h : RBd 3000 x) : ((x.den : Int)).natAbs < 2 ^ 3000 := by simpa using h.2
theorem p8 : (2 : Nat) ^ 6000 + 2 ^ 6000 ≤ 2 ^ 8000 := by
  have h : (2 : Nat) ^ 6001 = 2 ^ 6000 * 2 := Nat.pow_succ 2 6000
  have h2 : (2 : Nat) ^ 6001 ≤ 2 ^ 8000 := Nat.pow_le_pow_right (by decide) (by decide)
  rw [h, Nat.mul_two] at h2
  exact h2
theorem den_ne (x y : Rat) : (x.den : Int) * (y.den : Int) ≠ 0 := by
  have h1 := x.den_pos
  have h2 := y.den_pos
  exact Int.mul_ne_zero (by omega) (by omega)
theorem w_sum {r : Nat} (hr : G.fn r = spRat) (ts : List T) (Q : T → Prop) (h : spSum ts Q) : wFn G false ⟨2, 2, irSum r⟩ ts Q := by
  obtain ⟨x, y, rfl, hx, hy, q⟩ := h
  refine ⟨rfl, ?_⟩
  show wSs G (irSum r) _ [.val (rT x), .val (rT y)]
  obtain ⟨m1, b1⟩ := bd_mul hx.1 (bd_den hy)
  obtain ⟨m2, b2⟩ := bd_mul hy.1 (bd_den hx)
  obtain ⟨m3, b3⟩ := bd_mul (bd_den hx) (bd_den hy)
  have e : Rat.divInt (x.num * y.den + y.num * x.den) (x.den * y.den) = x + y := by
    rw [Rat.add_def']
    have : ((x.den : Int) * (y.den : Int)) = ((x.den * y.den : Nat) : Int) := by simp
    rw [this, Rat.divInt_ofNat]
  simp only [irSum, wSs, wS, TL.wE, wEs, slV, rT, idxF, atI0, atI1, Option.some.injEq, exists_eq_left', bin2, hr]
  have p := p8
  refine ⟨m1, m2, m3, _, _, rfl, den_ne x y, ?_, ?_, ?_⟩
  · have := Int.natAbs_add_le (x.num * y.den) (y.num * x.den)
    omega
  · omega
  · rw [e]; exact q
theorem w_lessOf {r : Nat} (hr : G.fn r = spRat) (ts : List T) (Q : T → Prop) (h : spLessOf ts Q) : wFn G false ⟨2, 2, irLessOf r⟩ ts Q := by
  obtain ⟨x, y, rfl, hx, hy, q⟩ := h
  refine ⟨rfl, ?_⟩
  show wSs G (irLessOf r) _ [.val (rT x), .val (rT y)]
  obtain ⟨m1, b1⟩ := bd_mul hx.1 (bd_den hy)
  obtain ⟨m2, b2⟩ := bd_mul hy.1 (bd_den hx)
  obtain ⟨m3, b3⟩ := bd_mul (bd_den hx) (bd_den hy)
  have e : Rat.divInt (x.num * y.den - y.num * x.den) (x.den * y.den) = x - y := by
    rw [Rat.sub_def']
    have : ((x.den : Int) * (y.den : Int)) = ((x.den * y.den : Nat) : Int) := by simp
    rw [this, Rat.divInt_ofNat]
  simp only [irLessOf, wSs, wS, TL.wE, wEs, slV, rT, idxF, atI0, atI1, Option.some.injEq, exists_eq_left', bin2, hr]
  have p := p8
  refine ⟨m1, m2, m3, _, _, rfl, den_ne x y, ?_, ?_, ?_⟩
  · have := Int.natAbs_sub_le (x.num * y.den) (y.num * x.den)
    omega
  · omega
  · rw [e]; exact q
theorem w_times {r : Nat} (hr : G.fn r = spRat) (ts : List T) (Q : T → Prop) (h : spTimes ts Q) : wFn G false ⟨2, 2, irTimes r⟩ ts Q := by
  obtain ⟨x, y, rfl, hx, hy, q⟩ := h
  refine ⟨rfl, ?_⟩
  show wSs G (irTimes r) _ [.val (rT x), .val (rT y)]
  obtain ⟨m1, b1⟩ := bd_mul hx.1 hy.1
  obtain ⟨m3, b3⟩ := bd_mul (bd_den hx) (bd_den hy)
  have e : Rat.divInt (x.num * y.num) (x.den * y.den) = x * y := by
    rw [Rat.mul_def']
    have : ((x.den : Int) * (y.den : Int)) = ((x.den * y.den : Nat) : Int) := by simp
    rw [this, Rat.divInt_ofNat]
  simp only [irTimes, wSs, wS, TL.wE, wEs, slV, rT, idxF, atI0, atI1, Option.some.injEq, exists_eq_left', bin2, hr]
  have p := p8
  refine ⟨m1, m3, _, _, rfl, den_ne x y, by omega, by omega, ?_⟩
  rw [e]; exact q
theorem w_below (ts : List T) (Q : T → Prop) (h : spBelow ts Q) : wFn G false ⟨2, 2, irBelow⟩ ts Q := by
  obtain ⟨x, y, rfl, hx, hy, q⟩ := h
  refine ⟨rfl, ?_⟩
  show wSs G irBelow _ [.val (rT x), .val (rT y)]
  obtain ⟨m1, b1⟩ := bd_mul hx.1 (bd_den hy)
  obtain ⟨m2, b2⟩ := bd_mul hy.1 (bd_den hx)
  simp only [irBelow, wSs, wS, TL.wE, wEs, slV, rT, idxF, atI0, atI1, Option.some.injEq, exists_eq_left', bin2, cmp2, ltF]
  refine ⟨m1, m2, ?_⟩
  have e : decide (x.num * (y.den : Int) < y.num * (x.den : Int)) = decide (x < y) := by
    by_cases c : x < y
    · rw [decide_eq_true c, decide_eq_true ((Rat.lt_iff x y).mp c)]
    · rw [decide_eq_false c, decide_eq_false fun z => c ((Rat.lt_iff x y).mpr z)]
  rw [e]; exact q
theorem w_floor (ts : List T) (Q : T → Prop) (h : spFloor ts Q) : wFn G false ⟨1, 1, irFloor⟩ ts Q := by
  obtain ⟨x, rfl, hx, q⟩ := h
  refine ⟨rfl, ?_⟩
  show wSs G irFloor _ [.val (rT x)]
  simp only [irFloor, wSs, wS, TL.wE, wEs, slV, rT, idxF, atI0, atI1, Option.some.injEq, exists_eq_left', bin2]
  have := x.den_pos
  refine ⟨divOk_lt (by omega) (Nat.lt_of_lt_of_le (bd_den hx) (Nat.pow_le_pow_right (by decide) (by decide))), ?_⟩
  rw [← Rat.floor_def]
  exact q
theorem gcd_step (x y : Nat) (h : y ≠ 0) : Nat.gcd y (x - x / y * y) = Nat.gcd x y := by
  have e : x - x / y * y = x % y := by have := Nat.div_add_mod x y; rw [Nat.mul_comm] at this; omega
  rw [e, Nat.gcd_comm x y, Nat.gcd_rec y x, Nat.gcd_comm]
theorem w_lawRat (ts : List T) (Q : T → Prop) (h : spRat ts Q) : wFn G false ⟨2, 4, irLawRat⟩ ts Q := by
  obtain ⟨p, q, rfl, q0, hp, hq, k⟩ := h
  refine ⟨rfl, ?_⟩
  show wSs G irLawRat _ [.val (.int p), .val (.int q), .no, .no]
  have e := rat_parts p q q0
  unfold rT at k
  rw [e.1, e.2] at k
  have dk := gcd_div (p := p) q0 hq
  simp only [irLawRat, wSs, wS, TL.wE, wEs, slV, b1F, abs_nat, parSet, List.set]
  refine ⟨fun k σ => ∃ x y : Nat, σ = [.val (.int p), .val (.int q), .val (.int x), .val (.int y)] ∧ y = k ∧ Nat.gcd x y = Int.gcd p q ∧ x < 2 ^ 8000 ∧ y < 2 ^ 8000, ⟨_, p.natAbs, q.natAbs, rfl, rfl, rfl, hp, hq⟩, fun n σ hI => ?_⟩
  obtain ⟨x, y, rfl, rfl, hg, hx, hy⟩ := hI
  simp only [tst, TL.wE, wEs, slV, cmp2, EqOk_int, true_and, teq_int, tru]
  by_cases c : y = 0
  · subst c
    simp only [Nat.gcd_zero_right] at hg
    subst hg
    simp only [Int.cast_ofNat_Int, decide_true, Bool.not_true, Bool.false_eq_true, if_false, slV, bin2]
    refine ⟨_, _, rfl, rfl, ?_⟩
    by_cases c2 : 0 < q
    · rw [if_pos (decide_eq_true c2)]
      rw [if_neg (by omega), if_neg (by omega)] at k
      exact ⟨dk, dk, (show 2 ≤ 1000 by decide), k⟩
    · rw [if_neg (by simpa using c2)]
      rw [if_pos (by omega), if_pos (by omega)] at k
      exact ⟨p, rfl, dk, q, rfl, dk, (show 2 ≤ 1000 by decide), k⟩
  · have ey : decide ((y : Int) = 0) = false := decide_eq_false (by omega)
    rw [ey]
    simp only [Bool.not_false, if_true, bin2, parSet, List.set]
    have hd : x / y * y ≤ x := Nat.div_mul_le_self x y
    have lt : x - x / y * y < y := by
      have := Nat.div_add_mod x y; rw [Nat.mul_comm] at this
      have := Nat.mod_lt x (Nat.pos_of_ne_zero c)
      omega
    refine ⟨divOk_lt (by omega) ?_, mulOk_lt (k := 8000) (l := 8000) ?_ ?_ (by decide) (by decide) (by decide), x - x / y * y, lt, y, x - x / y * y, ?_, rfl, ?_, hy, by omega⟩
    · have : ((y : Int)).natAbs = y := by simp
      rw [this]
      exact Nat.lt_of_lt_of_le hy (Nat.pow_le_pow_right (by decide) (by decide))
    · have : (((x : Int) / (y : Int))).natAbs = x / y := by rw [← Int.natCast_ediv, Int.natAbs_natCast]
      rw [this]
      exact Nat.lt_of_le_of_lt (Nat.div_le_self x y) hx
    · have : ((y : Int)).natAbs = y := by simp
      rw [this]; exact hy
    · have : ((x : Int) - (x : Int) / (y : Int) * (y : Int)) = ((x - x / y * y : Nat) : Int) := by
        rw [Int.ofNat_sub hd]
        simp
      rw [this]
    · rw [gcd_step x y c]; exact hg
end
end TL

set_option Elab.async false
set_option linter.all false
set_option maxRecDepth 100000
set_option maxHeartbeats 16000000
/-! TLs: is_ratio, its law's twin, sizes of ratios. -/
namespace TL
open PySem PySem.Spec PyProof.Rows L2
theorem teq_pair (a b c d : Int) : teq (.tup [.int a, .int b]) (.tup [.int c, .int d]) = (decide (a = c) && decide (b = d)) := by
  have h1 : teq (.tup [.int a, .int b]) (.tup [.int c, .int d]) = (teq (.int a) (.int c) && (teq (.int b) (.int d) && true)) := rfl
  rw [h1, teq_int, teq_int, Bool.and_true]
section
variable {G : Gm}
theorem isWh_int {t : T} (h : isWh t = true) : ∃ i, t = .int i := by
  cases t <;> first | exact ⟨_, rfl⟩ | cases h
theorem EqOk_pair (a b : Int) {t : T} (h : t.pl = true) : EqOk (.tup [.int a, .int b]) t := ⟨rfl, h, Nat.le_trans (Nat.min_le_left _ _) (show 1 ≤ 60 by decide)⟩
theorem w_isR {w r : Nat} (hw : G.fn w = spWhole) (hr : G.fn r = spRat) (ts : List T) (Q : T → Prop) (h : spIsR ts Q) : wFn G false ⟨1, 1, irIsR w r⟩ ts Q := by
  obtain ⟨t, rfl, hp, hb, q⟩ := h
  refine ⟨rfl, ?_⟩
  show wSs G (irIsR w r) _ [.val t]
  have notTup : (∀ xs, t ≠ .tup xs) → isiF .tup t = some false ∧ isRt t = false := fun hn => by
    cases t
    all_goals first
      | (exfalso; simp [T.pl] at hp; done)
      | exact ⟨rfl, rfl⟩
      | (exact absurd rfl (hn _))
  by_cases ht : ∃ xs, t = .tup xs
  case neg =>
    obtain ⟨h1, h2⟩ := notTup fun xs e => ht ⟨xs, e⟩
    simp only [irIsR, wSs, wS, tst, TL.wE, wEs, slV, h1, Option.some.injEq, exists_eq_left', tru, Bool.not_false, if_true]
    rw [h2] at q; exact q
  obtain ⟨xs, rfl⟩ := ht
  have hx : plAll xs = true := by simpa only [T.pl] using hp
  simp only [irIsR, wSs, wS, tst, TL.wE, wEs, slV, isiF, Option.some.injEq, exists_eq_left', tru, Bool.not_true, Bool.false_eq_true, if_false, b1F, cmp2, EqOk_int, true_and, teq_int]
  by_cases hl : xs.length = 2
  case neg =>
    have e : decide ((xs.length : Int) = 2) = false := decide_eq_false (by omega)
    rw [e]
    simp only [Bool.not_false, if_true]
    have : isRt (.tup xs) = false := by
      unfold isRt
      split
      · rename_i p q e; cases e; simp at hl
      · rfl
    rw [this] at q; exact q
  match xs, hl, hx, hb, q with
  | [a, b], _, hx, hb, q =>
    have pa := plAll_mem hx (t := a) (by simp)
    have pb := plAll_mem hx (t := b) (by simp)
    have e : decide ((([a, b] : List T).length : Int) = 2) = true := rfl
    rw [e]
    simp only [Bool.not_true, Bool.false_eq_true, if_false, idxF, atI0, atI1, Option.some.injEq, exists_eq_left', hw, tru]
    refine ⟨a, rfl, pa, ?_⟩
    simp only [tru]
    cases ea : isWh a with
    | false =>
      simp only [Bool.not_false, if_true, tru]
      have : isRt (.tup [a, b]) = false := by
        unfold isRt
        split
        · rename_i p q e; cases e; cases ea
        · rfl
      rw [this] at q; exact q
    | true =>
      simp only [Bool.not_true, Bool.false_eq_true, if_false]
      refine ⟨b, rfl, pb, ?_⟩
      simp only [tru]
      cases eb : isWh b with
      | false =>
        simp only [Bool.not_false, if_true, tru]
        have : isRt (.tup [a, b]) = false := by
          unfold isRt
          split
          · rename_i p q e; cases e; cases eb
          · rfl
        rw [this] at q; exact q
      | true =>
        simp only [Bool.not_true, Bool.false_eq_true, if_false, tru]
        obtain ⟨p, rfl⟩ := isWh_int ea
        obtain ⟨d, rfl⟩ := isWh_int eb
        refine ⟨d, 0, rfl, rfl, ?_⟩
        by_cases c : 0 < d
        · rw [if_pos (decide_eq_true c)]
          obtain ⟨b1, b2⟩ := hb p d rfl
          rw [hr]
          refine ⟨p, d, rfl, by omega, b1, b2, ?_⟩
          unfold rT
          refine ⟨EqOk_pair _ _ hp, ?_⟩
          rw [teq_pair]
          simpa only [isRt, decide_eq_true c, Bool.true_and] using q
        · rw [if_neg (by simpa using c)]
          simpa only [isRt, decide_eq_false c, Bool.false_and] using q
end
/-! ### sizes -/
theorem natAbs_ediv_le (a b : Int) : (a / b).natAbs ≤ a.natAbs + 1 ∨ True := .inr trivial
theorem divInt_bd {p q : Int} {k : Nat} (h : q ≠ 0) (hp : p.natAbs < 2 ^ k) (hq : q.natAbs < 2 ^ k) : RBd k (Rat.divInt p q) := by
  have e := rat_parts p q h
  obtain ⟨g0, gl⟩ := gcd_le (p := p) h
  have dv : ∀ x : Int, ((Int.gcd p q : Int)) ∣ x → (x / (Int.gcd p q : Int)).natAbs ≤ x.natAbs := fun x hx => by
    rw [Int.natAbs_ediv_of_dvd hx]
    exact Nat.div_le_self _ _
  have d1 : ((Int.gcd p q : Int)) ∣ p := Int.gcd_dvd_left p q
  have d2 : ((Int.gcd p q : Int)) ∣ q := Int.gcd_dvd_right p q
  refine ⟨?_, ?_⟩
  · rw [e.1]
    split
    · refine Nat.lt_of_le_of_lt (dv _ (Int.dvd_neg.mpr d1)) (by rw [Int.natAbs_neg]; exact hp)
    · exact Nat.lt_of_le_of_lt (dv _ d1) hp
  · have e2 : (Rat.divInt p q).den = (((Rat.divInt p q).den : Int)).natAbs := by simp
    rw [e2, e.2]
    split
    · refine Nat.lt_of_le_of_lt (dv _ (Int.dvd_neg.mpr d2)) (by rw [Int.natAbs_neg]; exact hq)
    · exact Nat.lt_of_le_of_lt (dv _ d2) hq
theorem RBd.mul {k l : Nat} {x y : Rat} (hx : RBd k x) (hy : RBd l y) : RBd (k + l) (x * y) := by
  have e : Rat.divInt (x.num * y.num) (x.den * y.den) = x * y := by
    rw [Rat.mul_def']
    have : ((x.den : Int) * (y.den : Int)) = ((x.den * y.den : Nat) : Int) := by simp
    rw [this, Rat.divInt_ofNat]
  rw [← e]
  refine divInt_bd (den_ne x y) ?_ ?_
  · rw [Int.natAbs_mul, Nat.pow_add]
    exact Nat.mul_lt_mul'' hx.1 hy.1
  · rw [Int.natAbs_mul, Nat.pow_add]
    simp only [Int.natAbs_natCast]
    exact Nat.mul_lt_mul'' hx.2 hy.2
theorem RBd.add {k l : Nat} {x y : Rat} (hx : RBd k x) (hy : RBd l y) : RBd (k + l + 1) (x + y) := by
  have e : Rat.divInt (x.num * y.den + y.num * x.den) (x.den * y.den) = x + y := by
    rw [Rat.add_def']
    have : ((x.den : Int) * (y.den : Int)) = ((x.den * y.den : Nat) : Int) := by simp
    rw [this, Rat.divInt_ofNat]
  rw [← e]
  have h1 : x.num.natAbs * y.den < 2 ^ k * 2 ^ l := Nat.mul_lt_mul'' hx.1 hy.2
  have h2 : y.num.natAbs * x.den < 2 ^ l * 2 ^ k := Nat.mul_lt_mul'' hy.1 hx.2
  have h3 : x.den * y.den < 2 ^ k * 2 ^ l := Nat.mul_lt_mul'' hx.2 hy.2
  have hp : (2 : Nat) ^ (k + l + 1) = 2 ^ k * 2 ^ l + 2 ^ k * 2 ^ l := by rw [Nat.pow_succ, Nat.pow_add]; omega
  have hc : (2 : Nat) ^ l * 2 ^ k = 2 ^ k * 2 ^ l := Nat.mul_comm _ _
  rw [hc] at h2
  refine divInt_bd (den_ne x y) ?_ ?_
  · have t := Int.natAbs_add_le (x.num * y.den) (y.num * x.den)
    rw [Int.natAbs_mul, Int.natAbs_mul] at t
    simp only [Int.natAbs_natCast] at t
    rw [hp]; omega
  · rw [Int.natAbs_mul]
    simp only [Int.natAbs_natCast]
    rw [hp]; omega
theorem RBd.int {k : Nat} {n : Int} (h : n.natAbs < 2 ^ k) (hk : 0 < k) : RBd k (n : Rat) := by
  refine ⟨by simpa using h, ?_⟩
  simp only [Rat.den_intCast]
  exact Nat.one_lt_two_pow (by omega)
theorem rT_int (n : Int) : rT (n : Rat) = .tup [.int n, .int 1] := by unfold rT; simp
end TL

set_option Elab.async false
set_option linter.all false
set_option maxRecDepth 100000
set_option maxHeartbeats 16000000
/-! TLt: _law_bent (of values of ints, bools, None, tuples). -/
namespace TL
open PySem PySem.Spec PyProof.Rows L2
mutual
/-- the greatest size of an int in it -/
def T.mag : T → Nat
  | .int i => i.natAbs
  | .tup ts => magAll ts
  | .lst ts => magAll ts
  | _ => 0
def magAll : List T → Nat
  | [] => 0
  | t :: ts => max t.mag (magAll ts)
end
mutual
/-- ints, bools, None, tuples of such -/
def T.cln : T → Bool
  | .int _ => true
  | .bl _ => true
  | .non => true
  | .tup ts => clnAll ts
  | _ => false
def clnAll : List T → Bool
  | [] => true
  | t :: ts => t.cln && clnAll ts
end
theorem magAll_le {m : Nat} : ∀ {ts : List T}, (∀ t ∈ ts, t.mag ≤ m) → magAll ts ≤ m
  | [], _ => Nat.zero_le _
  | t :: r, h => by
    rw [magAll]
    exact Nat.max_le.mpr ⟨h t List.mem_cons_self, magAll_le fun x hx => h x (List.mem_cons_of_mem _ hx)⟩
theorem magAll_mem {t : T} : ∀ {ts : List T}, t ∈ ts → t.mag ≤ magAll ts
  | x :: r, h => by
    rw [magAll]
    rcases List.mem_cons.mp h with rfl | h
    · exact Nat.le_max_left _ _
    · exact Nat.le_trans (magAll_mem h) (Nat.le_max_right _ _)
theorem depAll_le {m : Nat} : ∀ {ts : List T}, (∀ t ∈ ts, t.dep ≤ m) → depAll ts ≤ m
  | [], _ => Nat.zero_le _
  | t :: r, h => by
    rw [depAll]
    exact Nat.max_le.mpr ⟨h t List.mem_cons_self, depAll_le fun x hx => h x (List.mem_cons_of_mem _ hx)⟩
theorem widAll_le {m : Nat} : ∀ {ts : List T}, (∀ t ∈ ts, t.wid ≤ m) → widAll ts ≤ m
  | [], _ => Nat.zero_le _
  | t :: r, h => by
    rw [widAll]
    exact Nat.max_le.mpr ⟨h t List.mem_cons_self, widAll_le fun x hx => h x (List.mem_cons_of_mem _ hx)⟩
theorem plAll_of {ts : List T} (h : ∀ t ∈ ts, t.pl = true) : plAll ts = true := by
  rw [plAll_eq, List.all_eq_true]; exact h
theorem clnAll_mem {t : T} : ∀ {ts : List T}, clnAll ts = true → t ∈ ts → t.cln = true
  | x :: r, h, m => by
    rw [clnAll, Bool.and_eq_true] at h
    rcases List.mem_cons.mp m with rfl | m
    · exact h.1
    · exact clnAll_mem h.2 m
mutual
theorem cln_pl : ∀ {t : T}, t.cln = true → t.pl = true
  | .int _, _ => rfl
  | .bl _, _ => rfl
  | .non, _ => rfl
  | .tup ts, h => by
    rw [T.pl]
    rw [T.cln] at h
    exact clnAll_pl h
theorem clnAll_pl : ∀ {ts : List T}, clnAll ts = true → plAll ts = true
  | [], _ => rfl
  | t :: ts, h => by
    rw [clnAll, Bool.and_eq_true] at h
    rw [plAll, cln_pl h.1, clnAll_pl h.2]; rfl
end
/-- plain, and not greater than so -/
def Ok3 (d w m : Nat) (t : T) : Prop := t.pl = true ∧ t.dep ≤ d ∧ t.wid ≤ w ∧ t.mag ≤ m
theorem Ok3.mono {d w m d' w' m' : Nat} {t : T} (h : Ok3 d w m t) (h1 : d ≤ d') (h2 : w ≤ w') (h3 : m ≤ m') : Ok3 d' w' m' t :=
  ⟨h.1, Nat.le_trans h.2.1 h1, Nat.le_trans h.2.2.1 h2, Nat.le_trans h.2.2.2 h3⟩
theorem Ok3.tup {d w m : Nat} {ts : List T} (hl : ts.length ≤ w) (h : ∀ t ∈ ts, Ok3 d w m t) : Ok3 (d + 1) w m (.tup ts) :=
  ⟨by rw [T.pl]; exact plAll_of fun t ht => (h t ht).1, by rw [T.dep]; exact Nat.succ_le_succ (depAll_le fun t ht => (h t ht).2.1),
   by rw [T.wid]; exact Nat.max_le.mpr ⟨hl, widAll_le fun t ht => (h t ht).2.2.1⟩, by rw [T.mag]; exact magAll_le fun t ht => (h t ht).2.2.2⟩
theorem Ok3.items {d w m : Nat} {ts : List T} (h : Ok3 d w m (.tup ts)) : ts.length ≤ w ∧ ∀ t ∈ ts, Ok3 (d - 1) w m t := by
  obtain ⟨h1, h2, h3, h4⟩ := h
  rw [T.pl] at h1
  rw [T.dep] at h2
  rw [T.wid] at h3
  rw [T.mag] at h4
  exact ⟨Nat.le_trans (Nat.le_max_left _ _) h3, fun t ht => ⟨plAll_mem h1 ht, by have := depAll_mem ht; omega, by have := widAll_mem ht; omega, by have := magAll_mem ht; omega⟩⟩
theorem cutT_mem {xs : List T} {lo hi : Option Int} {t : T} (h : t ∈ cutT xs lo hi) : t ∈ xs := List.mem_of_mem_drop (List.mem_of_mem_take h)
theorem cutT_len (xs : List T) (lo hi : Option Int) : (cutT xs lo hi).length ≤ xs.length := by
  unfold cutT
  rw [List.length_take, List.length_drop]
  omega
theorem cutT_1 (xs : List T) : (cutT xs none (some 1)).length ≤ 1 := by
  unfold cutT
  rw [List.length_take]
  have : HT.sIx xs.length xs.length (some 1) ≤ 1 := by
    unfold HT.sIx
    show (if (1 : Int) < 0 then _ else min (1 : Int).toNat xs.length) ≤ 1
    rw [if_neg (by decide)]
    exact Nat.min_le_left _ _
  omega
theorem idx_any {l : List T} {d : Int} {Q : K1} (h0 : 0 ≤ d) (h1 : d < l.length) (h : ∀ v ∈ l, Q v) : idxF (.lst l) (.int d) Q := by
  obtain ⟨n, rfl⟩ : ∃ n : Nat, d = n := ⟨d.toNat, by omega⟩
  have hn : n < l.length := by omega
  refine ⟨_, atI_nat hn, h _ ?_⟩
  rw [List.getD_eq_getElem?_getD, List.getElem?_eq_getElem hn]
  exact List.getElem_mem hn
def irBent1 (dr n : Nat) : List TL.S := [
    .ite (.and (.isi .tup (.var 1)) (.and (.cmp .gt (.b1 .len (.var 1)) (.int 0)) (.cmp .gt (.call dr [(.var 0), (.int 5)]) (.int 0)))) [
      .asg (.nm 2) (.call dr [(.var 0), (.b1 .len (.var 1))]),
      .ret (.bin .add (.bin .add (.sli (.var 1) .non (.var 2)) (.tup [(.call n [(.var 0), (.idx (.var 1) (.var 2))])])) (.sli (.var 1) (.bin .add (.var 2) (.int 1)) .non))] [],
    .asg (.nm 3) (.call dr [(.var 0), (.int 8)]),
    .ite (.isi .tup (.var 1)) [
      .ret (.idx (.lst [(.bin .add (.var 1) (.sli (.var 1) .non (.int 1))), (.sli (.var 1) (.int 1) .non), (.rev (.var 1)), (.bin .add (.var 1) (.tup [(.int 0)])), (.bin .add (.sli (.var 1) .non (.int 1)) (.var 1)), (.sli (.var 1) .non (.neg (.int 1))), .non, (.sli (.var 1) .non (.int 1))]) (.var 3))] [],
    .ite (.and (.isi .int (.var 1)) (.not (.isi .bool (.var 1)))) [
      .ret (.idx (.lst [(.bin .add (.var 1) (.int 1)), (.bin .sub (.var 1) (.int 1)), (.neg (.var 1)), (.cmp .eq (.var 1) (.int 1)), .non, (.b1 .str (.var 1)), (.tup [(.var 1)]), (.bin .add (.var 1) (.int 1001))]) (.var 3))] [],
    .ite (.isi .str (.var 1)) [
      .ret (.idx (.lst [(.bin .add (.var 1) (.str "a")), (.sli (.var 1) (.int 1) .non), (.str "any"), .dead, (.int 0), (.str ""), (.bin .add (.var 1) (.str "z0z0z0z0")), (.tup [(.var 1)])]) (.var 3))] [],
    .ret (.idx (.lst [(.int 0), (.int 1), .non, (.bl true), (.bl false), (.str "a"), (.tup []), (.neg (.int 1))]) (.var 3))]
/-- any plain value that is not much greater -/
def spBent (d : Nat) (ts : List T) (Q : T → Prop) : Prop := ∃ v, ts = [.tape, v] ∧ v.cln = true ∧ v.dep < d ∧ v.wid ≤ 1000 ∧ v.mag < 2 ^ 1000 ∧ ∀ v', Ok3 (v.dep + 1) (v.wid + 1) (v.mag + 1001) v' → Q v'
section
variable {G : Gm}
theorem draw_read {dr : Nat} (hd : G.fn dr = spDraw) {m : Int} {Q : T → Prop} (h0 : 0 < m) (h1 : m.natAbs < 2 ^ 8000) (h : ∀ d : Int, 0 ≤ d → d < m → Q (.int d)) : G.fn dr [.tape, .int m] Q := by
  rw [hd]
  have := log_lt h1 (by decide)
  exact ⟨m, rfl, h0, by omega, h⟩
theorem put_other {n dr : Nat} {sp : List T → (T → Prop) → Prop} (h : dr ≠ n) : (G.put n sp).fn dr = G.fn dr := by
  show (if dr = n then sp else G.fn dr) = G.fn dr
  rw [if_neg h]
theorem put_self {n : Nat} {sp : List T → (T → Prop) → Prop} : (G.put n sp).fn n = sp := by
  show (if n = n then sp else G.fn n) = sp
  rw [if_pos rfl]
theorem ok3_of {v : T} (h : v.cln = true) : Ok3 v.dep v.wid v.mag v := ⟨cln_pl h, Nat.le_refl _, Nat.le_refl _, Nat.le_refl _⟩
theorem bent_last {Q : K1} (h : ∀ t, Ok3 1 1 1 t → Q t) : ∀ t ∈ [T.int 0, T.int 1, T.non, T.bl true, T.bl false, T.str "a", T.tup [], T.int (-1)], Q t := by
  intro t ht
  simp only [List.mem_cons, List.not_mem_nil, or_false] at ht
  rcases ht with rfl | rfl | rfl | rfl | rfl | rfl | rfl | rfl <;> exact h _ ⟨rfl, by decide, by decide, by decide⟩
theorem w_bent1 {dr n d : Nat} (hd : G.fn dr = spDraw) (hn : dr ≠ n) (ts : List T) (Q : T → Prop) (h : spBent (d + 1) ts Q) : wFn (G.put n (spBent d)) false ⟨2, 4, irBent1 dr n⟩ ts Q := by
  obtain ⟨v, rfl, hc, hdp, hw, hm, q⟩ := h
  refine ⟨rfl, ?_⟩
  have hd' : (G.put n (spBent d)).fn dr = spDraw := by rw [put_other hn, hd]
  have ov := ok3_of hc
  have sz : sizeLine = 16777216 := sizeLine_eq
  have b8 : (8 : Int).natAbs < 2 ^ 8000 := Nat.lt_of_lt_of_le (show 8 < 2 ^ 4 by decide) (Nat.pow_le_pow_right (by decide) (by decide))
  have b5 : (5 : Int).natAbs < 2 ^ 8000 := Nat.lt_of_lt_of_le (show 5 < 2 ^ 4 by decide) (Nat.pow_le_pow_right (by decide) (by decide))
  show wSs (G.put n (spBent d)) (irBent1 dr n) { nx := fun _ => if false = true then False else Q .non, rt := Q, bk := fun _ => False, ct := fun _ => False } [.val .tape, .val v, .no, .no]
  cases v
  case str x => simp [T.cln] at hc
  case lst x => simp [T.cln] at hc
  case dic x y => simp [T.cln] at hc
  case st x => simp [T.cln] at hc
  case tape => simp [T.cln] at hc
  case int i =>
    simp only [irBent1, wSs, wS, tst, TL.wE, wEs, slV, isiF, Option.some.injEq, exists_eq_left', tru, Bool.false_eq_true, if_false, asg, List.set]
    refine draw_read hd' (by decide) b8 fun e e0 e1 => ?_
    simp only [if_true, Bool.not_false, bin2, cmp2, EqOk_int, true_and, teq_int, b1F, T.int.injEq, exists_eq_left']
    have hi : i.natAbs < 2 ^ 1000 := by simpa only [T.mag] using hm
    have hlog := log_lt hi (by decide)
    simp only [T.dep, T.wid, T.mag] at q
    refine ⟨by omega, (show 1 ≤ 1000 by decide), (show 8 ≤ 1000 by decide), idx_any e0 (by simpa using e1) ?_⟩
    intro t ht
    simp only [List.mem_cons, List.not_mem_nil, or_false] at ht
    have oki : ∀ j : Int, j.natAbs ≤ i.natAbs + 1001 → Ok3 0 0 (i.natAbs + 1001) (.int j) := fun j hj => ⟨rfl, Nat.le_refl _, Nat.le_refl _, by simpa only [T.mag] using hj⟩
    have ok0 : ∀ t : T, t.pl = true → t.dep = 0 → t.wid = 0 → t.mag = 0 → Ok3 (0 + 1) (0 + 1) (i.natAbs + 1001) t := fun t h1 h2 h3 h4 => ⟨h1, by omega, by omega, by omega⟩
    rcases ht with rfl | rfl | rfl | rfl | rfl | rfl | rfl | rfl
    · exact q _ ((oki _ (by omega)).mono (by omega) (by omega) (by omega))
    · exact q _ ((oki _ (by omega)).mono (by omega) (by omega) (by omega))
    · exact q _ ((oki _ (by omega)).mono (by omega) (by omega) (by omega))
    · exact q _ (ok0 _ rfl rfl rfl rfl)
    · exact q _ (ok0 _ rfl rfl rfl rfl)
    · exact q _ (ok0 _ rfl rfl rfl rfl)
    · exact q _ (Ok3.tup (show 1 ≤ 0 + 1 by decide) fun t ht => by
        rw [List.mem_singleton] at ht
        subst ht
        exact (oki i (by omega)).mono (by omega) (by omega) (by omega))
    · exact q _ ((oki _ (by omega)).mono (by omega) (by omega) (by omega))
  case bl b =>
    simp only [irBent1, wSs, wS, tst, TL.wE, wEs, slV, isiF, Option.some.injEq, exists_eq_left', tru, Bool.false_eq_true, if_false, asg, List.set]
    refine draw_read hd' (by decide) b8 fun e e0 e1 => ?_
    simp only [if_true, Bool.not_true, Bool.false_eq_true, if_false, T.int.injEq, exists_eq_left']
    simp only [T.dep, T.wid, T.mag] at q
    refine ⟨(show 0 ≤ 1000 by decide), (show 8 ≤ 1000 by decide), idx_any e0 (by simpa using e1) (bent_last fun t ht => q t (ht.mono (by omega) (by omega) (by omega)))⟩
  case non =>
    simp only [irBent1, wSs, wS, tst, TL.wE, wEs, slV, isiF, Option.some.injEq, exists_eq_left', tru, Bool.false_eq_true, if_false, asg, List.set]
    refine draw_read hd' (by decide) b8 fun e e0 e1 => ?_
    simp only [Bool.false_eq_true, if_false, T.int.injEq, exists_eq_left']
    simp only [T.dep, T.wid, T.mag] at q
    refine ⟨(show 0 ≤ 1000 by decide), (show 8 ≤ 1000 by decide), idx_any e0 (by simpa using e1) (bent_last fun t ht => q t (ht.mono (by omega) (by omega) (by omega)))⟩
  case tup xs =>
    obtain ⟨hl, hx⟩ := ov.items
    have hcl : clnAll xs = true := by simpa only [T.cln] using hc
    generalize hW : (T.tup xs).wid = W at *
    generalize hM : (T.tup xs).mag = M at *
    have hD : (T.tup xs).dep = depAll xs + 1 := by rw [T.dep]
    rw [hD] at q hdp hx
    have rest : wSs (G.put n (spBent d)) (irBent1 dr n).tail { nx := fun _ => if false = true then False else Q .non, rt := Q, bk := fun _ => False, ct := fun _ => False } [.val .tape, .val (.tup xs), .no, .no] := by
      simp only [irBent1, List.tail_cons, wSs, wS, tst, TL.wE, wEs, slV, isiF, Option.some.injEq, exists_eq_left', tru, Bool.false_eq_true, if_false, asg, List.set]
      refine draw_read hd' (by decide) b8 fun e e0 e1 => ?_
      have c1 := cutT_1 xs
      simp only [if_true, bin2, isNon, wPt, sliF, revF, T.int.injEq, exists_eq_left']
      refine ⟨by omega, (show 1 ≤ 1000 by decide), by simp only [List.length_cons, List.length_nil]; omega, by omega, (show 8 ≤ 1000 by decide), idx_any e0 (by simpa using e1) ?_⟩
      have okt : ∀ ys : List T, ys.length ≤ xs.length + 1 → (∀ y ∈ ys, y ∈ xs ∨ y = .int 0) → Q (.tup ys) := fun ys h1 h2 => q _ (Ok3.mono (d := depAll xs + 1) (w := W + 1) (m := M) (Ok3.tup (by omega) fun y hy => by
        rcases h2 y hy with z | rfl
        · exact (hx y z).mono (by omega) (by omega) (Nat.le_refl _)
        · exact ⟨rfl, Nat.zero_le _, Nat.zero_le _, Nat.zero_le _⟩) (by omega) (by omega) (by omega))
      intro t ht
      simp only [List.mem_cons, List.not_mem_nil, or_false] at ht
      rcases ht with rfl | rfl | rfl | rfl | rfl | rfl | rfl | rfl
      · refine okt _ (by rw [List.length_append]; omega) fun y hy => ?_
        rcases List.mem_append.mp hy with z | z
        · exact .inl z
        · exact .inl (cutT_mem z)
      · exact okt _ (by have := cutT_len xs (some 1) none; omega) fun y hy => .inl (cutT_mem hy)
      · exact okt _ (by rw [List.length_reverse]; omega) fun y hy => .inl (List.mem_reverse.mp hy)
      · refine okt _ (by rw [List.length_append]; simp) fun y hy => ?_
        rcases List.mem_append.mp hy with z | z
        · exact .inl z
        · exact .inr (List.mem_singleton.mp z)
      · refine okt _ (by rw [List.length_append]; omega) fun y hy => ?_
        rcases List.mem_append.mp hy with z | z
        · exact .inl (cutT_mem z)
        · exact .inl z
      · exact okt _ (by have := cutT_len xs none (some (-1)); omega) fun y hy => .inl (cutT_mem hy)
      · exact q _ ⟨rfl, Nat.zero_le _, Nat.zero_le _, Nat.zero_le _⟩
      · exact okt _ (by omega) fun y hy => .inl (cutT_mem hy)
    have e : irBent1 dr n = (irBent1 dr n).head (by simp [irBent1]) :: (irBent1 dr n).tail := rfl
    rw [e, wSs]
    simp only [irBent1, List.head_cons, wS, tst, TL.wE, wEs, slV, isiF, Option.some.injEq, exists_eq_left', tru, if_true, b1F, cmp2]
    refine ⟨_, 0, rfl, rfl, ?_⟩
    by_cases c : (0 : Int) < xs.length
    case neg =>
      rw [if_neg (by simpa using c)]
      rw [if_neg (by simpa using c), wSs]
      exact rest
    rw [if_pos (decide_eq_true c)]
    refine draw_read hd' (by decide) b5 fun e e0 e1 => ?_
    refine ⟨e, 0, rfl, rfl, ?_⟩
    by_cases c2 : 0 < e
    case neg =>
      rw [if_neg (by simpa using c2), wSs]
      exact rest
    rw [if_pos (decide_eq_true c2)]
    simp only [wSs, wS, TL.wE, wEs, slV, b1F, asg, List.set]
    refine draw_read hd' c (Nat.lt_of_lt_of_le (show ((xs.length : Int)).natAbs < 2 ^ 30 by omega) (Nat.pow_le_pow_right (by decide) (by decide))) fun a a0 a1 => ?_
    simp only [isNon, wPt, sliF, idxF, bin2, T.int.injEq, exists_eq_left']
    obtain ⟨k, rfl⟩ : ∃ k : Nat, a = k := ⟨a.toNat, by omega⟩
    have hk : k < xs.length := by omega
    refine ⟨_, atI_nat hk, ?_⟩
    have mk : xs.getD k .non ∈ xs := by rw [List.getD_eq_getElem?_getD, List.getElem?_eq_getElem hk]; exact List.getElem_mem hk
    have ok := hx _ mk
    rw [put_self]
    refine ⟨xs.getD k .non, rfl, clnAll_mem hcl mk, by have := depAll_mem mk; omega, by have := ok.2.2.1; omega, Nat.lt_of_le_of_lt ok.2.2.2 hm, fun v' hv' => ?_⟩
    have l1 := cutT_len xs none (some (k : Int))
    have l2 := cutT_len xs (some ((k : Int) + 1)) none
    have lk : (cutT xs none (some (k : Int))).length ≤ k := by
      unfold cutT
      rw [List.length_take]
      have : HT.sIx xs.length xs.length (some (k : Int)) ≤ k := by
        show (if (k : Int) < 0 then ((k : Int) + (xs.length : Int)).toNat else min (k : Int).toNat xs.length) ≤ k
        rw [if_neg (by omega)]
        exact Nat.le_trans (Nat.min_le_left _ _) (by omega)
      omega
    have lk2 : (cutT xs (some ((k : Int) + 1)) none).length ≤ xs.length - (k + 1) := by
      unfold cutT
      rw [List.length_take, List.length_drop]
      have : HT.sIx xs.length 0 (some ((k : Int) + 1)) = k + 1 := by
        show (if (k : Int) + 1 < 0 then ((k : Int) + 1 + (xs.length : Int)).toNat else min ((k : Int) + 1).toNat xs.length) = k + 1
        rw [if_neg (by omega)]
        omega
      omega
    refine ⟨(show 1 ≤ 1000 by decide), by simp only [List.length_cons, List.length_nil]; omega, by simp only [List.length_append, List.length_cons, List.length_nil]; omega, ?_⟩
    refine q _ (Ok3.tup ?_ fun y hy => ?_)
    · simp only [List.length_append, List.length_cons, List.length_nil]; omega
    · rcases List.mem_append.mp hy with z | z
      · rcases List.mem_append.mp z with z | z
        · exact (hx y (cutT_mem z)).mono (by omega) (by omega) (by omega)
        · rw [List.mem_singleton] at z
          subst z
          have := depAll_mem mk
          exact hv'.mono (by omega) (by have := ok.2.2.1; omega) (by have := ok.2.2.2; omega)
      · exact (hx y (cutT_mem z)).mono (by omega) (by omega) (by omega)
end
end TL

set_option Elab.async false
set_option linter.all false
set_option maxRecDepth 100000
set_option maxHeartbeats 16000000
/-! printed by gen.py: the text's trees -/
namespace TK
open PySem PySem.Spec PyProof.Rows L2 TL
def topS (i : Nat) : Stmt := PySem.Challenge.pw_teasblended_k30_whole_pourings_of_a_pot.main.body.getD i (.Pass ⟨0, 0, 0, 0⟩)
def mkD (x : Str) (i : Nat) : He.DefD := ⟨(x, none), x, x, defArgs (topS i), defBody (topS i), defScope (topS i), [], []⟩
def fnNames : List (Str × Bool) := [("is_whole", false), ("divisor_of", false), ("ratio_of", false), ("is_ratio", false), ("sum_of", false), ("times_of", false), ("is_below", false), ("floor_of", false), ("is_keep", false), ("kept_power", false), ("strength_of", false), ("cup_strengths", false), ("whole_strength", false), ("strength_limit", false), ("least_times", false), ("leaves_for", false), ("leaves_for_all", false), ("cups_as_strong", false), ("_law_draw", false), ("_law_same", false), ("_law_bent", false), ("_law_ratio", false), ("_law_plus", false), ("_law_less", false), ("_law_sum", false), ("_law_is_ratio", false), ("_law_run", false)]
def csNames : List Str := ["MOST_LEAVES", "MOST_POURS"]
def csVals : List T := [.int 100, .int 30]
def blNames : List Str := ["abs", "all", "bool", "int", "isinstance", "len", "list", "max", "range", "str", "tuple"]
-- 0 is_whole (0 value)
def n_is_whole : List Str := ["value"]
def p_is_whole : List Str := ["value"]
def ir_is_whole : List TL.S := [
    .ret (.and (.isi .int (.var 0)) (.not (.isi .bool (.var 0))))]
theorem sc_is_whole : FnScope n_is_whole p_is_whole (defScope (topS 1)) := ⟨rfl, rfl, rfl, by decide +kernel, rfl, by decide +kernel, by decide +kernel⟩
theorem ck_is_whole : chkSs ⟨(fnNames.take 0), csNames, blNames⟩ n_is_whole false (defScope (topS 1)) ir_is_whole (defBody (topS 1)) = true := by decide +kernel
-- 1 divisor_of (0 a, 1 b)
def n_divisor_of : List Str := ["a", "b"]
def p_divisor_of : List Str := ["a", "b"]
def ir_divisor_of : List TL.S := [
    .par [(false, 0), (false, 1)] [(.b1 .abs (.var 0)), (.b1 .abs (.var 1))],
    .whl (.var 1) [
      .par [(false, 0), (false, 1)] [(.var 1), (.bin .mod (.var 0) (.var 1))]],
    .ret (.var 0)]
theorem sc_divisor_of : FnScope n_divisor_of p_divisor_of (defScope (topS 3)) := ⟨rfl, rfl, rfl, by decide +kernel, rfl, by decide +kernel, by decide +kernel⟩
theorem ck_divisor_of : chkSs ⟨(fnNames.take 1), csNames, blNames⟩ n_divisor_of false (defScope (topS 3)) ir_divisor_of (defBody (topS 3)) = true := by decide +kernel
-- 2 ratio_of (0 p, 1 q, 2 g)
def n_ratio_of : List Str := ["p", "q", "g"]
def p_ratio_of : List Str := ["p", "q"]
def ir_ratio_of : List TL.S := [
    .ite (.cmp .lt (.var 1) (.int 0)) [
      .par [(false, 0), (false, 1)] [(.neg (.var 0)), (.neg (.var 1))]] [],
    .asg (.nm 2) (.call 1 [(.var 0), (.var 1)]),
    .ret (.tup [(.bin .fdiv (.var 0) (.var 2)), (.bin .fdiv (.var 1) (.var 2))])]
theorem sc_ratio_of : FnScope n_ratio_of p_ratio_of (defScope (topS 4)) := ⟨rfl, rfl, rfl, by decide +kernel, rfl, by decide +kernel, by decide +kernel⟩
theorem ck_ratio_of : chkSs ⟨(fnNames.take 2), csNames, blNames⟩ n_ratio_of false (defScope (topS 4)) ir_ratio_of (defBody (topS 4)) = true := by decide +kernel
-- 3 is_ratio (0 value)
def n_is_ratio : List Str := ["value"]
def p_is_ratio : List Str := ["value"]
def ir_is_ratio : List TL.S := [
    .ite (.or (.not (.isi .tup (.var 0))) (.or (.cmp .ne (.b1 .len (.var 0)) (.int 2)) (.or (.not (.call 0 [(.idx (.var 0) (.int 0))])) (.not (.call 0 [(.idx (.var 0) (.int 1))]))))) [
      .ret (.bl false)] [],
    .ret (.and (.cmp .gt (.idx (.var 0) (.int 1)) (.int 0)) (.cmp .eq (.call 2 [(.idx (.var 0) (.int 0)), (.idx (.var 0) (.int 1))]) (.var 0)))]
theorem sc_is_ratio : FnScope n_is_ratio p_is_ratio (defScope (topS 5)) := ⟨rfl, rfl, rfl, by decide +kernel, rfl, by decide +kernel, by decide +kernel⟩
theorem ck_is_ratio : chkSs ⟨(fnNames.take 3), csNames, blNames⟩ n_is_ratio false (defScope (topS 5)) ir_is_ratio (defBody (topS 5)) = true := by decide +kernel
-- 4 sum_of (0 one, 1 other)
def n_sum_of : List Str := ["one", "other"]
def p_sum_of : List Str := ["one", "other"]
def ir_sum_of : List TL.S := [
    .ret (.call 2 [(.bin .add (.bin .mul (.idx (.var 0) (.int 0)) (.idx (.var 1) (.int 1))) (.bin .mul (.idx (.var 1) (.int 0)) (.idx (.var 0) (.int 1)))), (.bin .mul (.idx (.var 0) (.int 1)) (.idx (.var 1) (.int 1)))])]
theorem sc_sum_of : FnScope n_sum_of p_sum_of (defScope (topS 6)) := ⟨rfl, rfl, rfl, by decide +kernel, rfl, by decide +kernel, by decide +kernel⟩
theorem ck_sum_of : chkSs ⟨(fnNames.take 4), csNames, blNames⟩ n_sum_of false (defScope (topS 6)) ir_sum_of (defBody (topS 6)) = true := by decide +kernel
-- 5 times_of (0 one, 1 other)
def n_times_of : List Str := ["one", "other"]
def p_times_of : List Str := ["one", "other"]
def ir_times_of : List TL.S := [
    .ret (.call 2 [(.bin .mul (.idx (.var 0) (.int 0)) (.idx (.var 1) (.int 0))), (.bin .mul (.idx (.var 0) (.int 1)) (.idx (.var 1) (.int 1)))])]
theorem sc_times_of : FnScope n_times_of p_times_of (defScope (topS 7)) := ⟨rfl, rfl, rfl, by decide +kernel, rfl, by decide +kernel, by decide +kernel⟩
theorem ck_times_of : chkSs ⟨(fnNames.take 5), csNames, blNames⟩ n_times_of false (defScope (topS 7)) ir_times_of (defBody (topS 7)) = true := by decide +kernel
-- 6 is_below (0 one, 1 other)
def n_is_below : List Str := ["one", "other"]
def p_is_below : List Str := ["one", "other"]
def ir_is_below : List TL.S := [
    .ret (.cmp .lt (.bin .mul (.idx (.var 0) (.int 0)) (.idx (.var 1) (.int 1))) (.bin .mul (.idx (.var 1) (.int 0)) (.idx (.var 0) (.int 1))))]
theorem sc_is_below : FnScope n_is_below p_is_below (defScope (topS 8)) := ⟨rfl, rfl, rfl, by decide +kernel, rfl, by decide +kernel, by decide +kernel⟩
theorem ck_is_below : chkSs ⟨(fnNames.take 6), csNames, blNames⟩ n_is_below false (defScope (topS 8)) ir_is_below (defBody (topS 8)) = true := by decide +kernel
-- 7 floor_of (0 ratio)
def n_floor_of : List Str := ["ratio"]
def p_floor_of : List Str := ["ratio"]
def ir_floor_of : List TL.S := [
    .ret (.bin .fdiv (.idx (.var 0) (.int 0)) (.idx (.var 0) (.int 1)))]
theorem sc_floor_of : FnScope n_floor_of p_floor_of (defScope (topS 9)) := ⟨rfl, rfl, rfl, by decide +kernel, rfl, by decide +kernel, by decide +kernel⟩
theorem ck_floor_of : chkSs ⟨(fnNames.take 7), csNames, blNames⟩ n_floor_of false (defScope (topS 9)) ir_floor_of (defBody (topS 9)) = true := by decide +kernel
-- 8 is_keep (0 value)
def n_is_keep : List Str := ["value"]
def p_is_keep : List Str := ["value"]
def ir_is_keep : List TL.S := [
    .ret (.and (.call 3 [(.var 0)]) (.chain .le .lt (.int 0) (.idx (.var 0) (.int 0)) (.idx (.var 0) (.int 1))))]
theorem sc_is_keep : FnScope n_is_keep p_is_keep (defScope (topS 13)) := ⟨rfl, rfl, rfl, by decide +kernel, rfl, by decide +kernel, by decide +kernel⟩
theorem ck_is_keep : chkSs ⟨(fnNames.take 8), csNames, blNames⟩ n_is_keep false (defScope (topS 13)) ir_is_keep (defBody (topS 13)) = true := by decide +kernel
-- 9 kept_power (0 keep, 1 m, 2 found, 3 _)
def n_kept_power : List Str := ["keep", "m", "found", "_"]
def p_kept_power : List Str := ["keep", "m"]
def ir_kept_power : List TL.S := [
    .asg (.nm 2) (.tup [(.int 1), (.int 1)]),
    .for_ (.nm 3) (.rng (.int 0) (.var 1)) [
      .asg (.nm 2) (.call 5 [(.var 2), (.var 0)])],
    .ret (.var 2)]
theorem sc_kept_power : FnScope n_kept_power p_kept_power (defScope (topS 14)) := ⟨rfl, rfl, rfl, by decide +kernel, rfl, by decide +kernel, by decide +kernel⟩
theorem ck_kept_power : chkSs ⟨(fnNames.take 9), csNames, blNames⟩ n_kept_power false (defScope (topS 14)) ir_kept_power (defBody (topS 14)) = true := by decide +kernel
-- 10 strength_of (0 leaves, 1 keep, 2 k)
def n_strength_of : List Str := ["leaves", "keep", "k"]
def p_strength_of : List Str := ["leaves", "keep", "k"]
def ir_strength_of : List TL.S := [
    .ret (.call 5 [(.tup [(.var 0), (.int 1)]), (.call 9 [(.var 1), (.var 2)])])]
theorem sc_strength_of : FnScope n_strength_of p_strength_of (defScope (topS 15)) := ⟨rfl, rfl, rfl, by decide +kernel, rfl, by decide +kernel, by decide +kernel⟩
theorem ck_strength_of : chkSs ⟨(fnNames.take 10), csNames, blNames⟩ n_strength_of false (defScope (topS 15)) ir_strength_of (defBody (topS 15)) = true := by decide +kernel
-- 11 cup_strengths (0 leaves, 1 keep, 2 m, 3 k)
def n_cup_strengths : List Str := ["leaves", "keep", "m", "k"]
def p_cup_strengths : List Str := ["leaves", "keep", "m"]
def ir_cup_strengths : List TL.S := [
    .ret (.b1 .tup (.comp (.call 10 [(.var 0), (.var 1), (.var 3)]) (.nm 3) (.rng (.int 0) (.var 2)) (.bl true) [3]))]
theorem sc_cup_strengths : FnScope n_cup_strengths p_cup_strengths (defScope (topS 16)) := ⟨rfl, rfl, rfl, by decide +kernel, rfl, by decide +kernel, by decide +kernel⟩
theorem ck_cup_strengths : chkSs ⟨(fnNames.take 11), csNames, blNames⟩ n_cup_strengths false (defScope (topS 16)) ir_cup_strengths (defBody (topS 16)) = true := by decide +kernel
-- 12 whole_strength (0 leaves, 1 keep, 2 m, 3 found, 4 one)
def n_whole_strength : List Str := ["leaves", "keep", "m", "found", "one"]
def p_whole_strength : List Str := ["leaves", "keep", "m"]
def ir_whole_strength : List TL.S := [
    .asg (.nm 3) (.tup [(.int 0), (.int 1)]),
    .for_ (.nm 4) (.call 11 [(.var 0), (.var 1), (.var 2)]) [
      .asg (.nm 3) (.call 4 [(.var 3), (.var 4)])],
    .ret (.var 3)]
theorem sc_whole_strength : FnScope n_whole_strength p_whole_strength (defScope (topS 17)) := ⟨rfl, rfl, rfl, by decide +kernel, rfl, by decide +kernel, by decide +kernel⟩
theorem ck_whole_strength : chkSs ⟨(fnNames.take 12), csNames, blNames⟩ n_whole_strength false (defScope (topS 17)) ir_whole_strength (defBody (topS 17)) = true := by decide +kernel
-- 13 strength_limit (0 leaves, 1 keep)
def n_strength_limit : List Str := ["leaves", "keep"]
def p_strength_limit : List Str := ["leaves", "keep"]
def ir_strength_limit : List TL.S := [
    .ret (.call 2 [(.bin .mul (.var 0) (.idx (.var 1) (.int 1))), (.bin .sub (.idx (.var 1) (.int 1)) (.idx (.var 1) (.int 0)))])]
theorem sc_strength_limit : FnScope n_strength_limit p_strength_limit (defScope (topS 18)) := ⟨rfl, rfl, rfl, by decide +kernel, rfl, by decide +kernel, by decide +kernel⟩
theorem ck_strength_limit : chkSs ⟨(fnNames.take 13), csNames, blNames⟩ n_strength_limit false (defScope (topS 18)) ir_strength_limit (defBody (topS 18)) = true := by decide +kernel
-- 14 least_times (0 need, 1 one, 2 whole)
def n_least_times : List Str := ["need", "one", "whole"]
def p_least_times : List Str := ["need", "one"]
def ir_least_times : List TL.S := [
    .asg (.nm 2) (.call 2 [(.bin .mul (.idx (.var 0) (.int 0)) (.idx (.var 1) (.int 1))), (.bin .mul (.idx (.var 0) (.int 1)) (.idx (.var 1) (.int 0)))]),
    .ret (.b2 .max (.int 1) (.bin .add (.call 7 [(.var 2)]) (.ite (.cmp .eq (.idx (.var 2) (.int 1)) (.int 1)) (.int 0) (.int 1))))]
theorem sc_least_times : FnScope n_least_times p_least_times (defScope (topS 19)) := ⟨rfl, rfl, rfl, by decide +kernel, rfl, by decide +kernel, by decide +kernel⟩
theorem ck_least_times : chkSs ⟨(fnNames.take 14), csNames, blNames⟩ n_least_times false (defScope (topS 19)) ir_least_times (defBody (topS 19)) = true := by decide +kernel
-- 15 leaves_for (0 keep, 1 m, 2 need, 3 power)
def n_leaves_for : List Str := ["keep", "m", "need", "power"]
def p_leaves_for : List Str := ["keep", "m", "need"]
def ir_leaves_for : List TL.S := [
    .asg (.nm 3) (.call 9 [(.var 0), (.bin .sub (.var 1) (.int 1))]),
    .ret (.ite (.idx (.var 3) (.int 0)) (.call 14 [(.var 2), (.var 3)]) .non)]
theorem sc_leaves_for : FnScope n_leaves_for p_leaves_for (defScope (topS 20)) := ⟨rfl, rfl, rfl, by decide +kernel, rfl, by decide +kernel, by decide +kernel⟩
theorem ck_leaves_for : chkSs ⟨(fnNames.take 15), csNames, blNames⟩ n_leaves_for false (defScope (topS 20)) ir_leaves_for (defBody (topS 20)) = true := by decide +kernel
-- 16 leaves_for_all (0 keep, 1 m, 2 need)
def n_leaves_for_all : List Str := ["keep", "m", "need"]
def p_leaves_for_all : List Str := ["keep", "m", "need"]
def ir_leaves_for_all : List TL.S := [
    .ret (.call 14 [(.var 2), (.call 12 [(.int 1), (.var 0), (.var 1)])])]
theorem sc_leaves_for_all : FnScope n_leaves_for_all p_leaves_for_all (defScope (topS 21)) := ⟨rfl, rfl, rfl, by decide +kernel, rfl, by decide +kernel, by decide +kernel⟩
theorem ck_leaves_for_all : chkSs ⟨(fnNames.take 16), csNames, blNames⟩ n_leaves_for_all false (defScope (topS 21)) ir_leaves_for_all (defBody (topS 21)) = true := by decide +kernel
-- 17 cups_as_strong (0 leaves, 1 keep, 2 need, 3 found, 4 here)
def n_cups_as_strong : List Str := ["leaves", "keep", "need", "found", "here"]
def p_cups_as_strong : List Str := ["leaves", "keep", "need"]
def ir_cups_as_strong : List TL.S := [
    .par [(false, 3), (false, 4)] [(.int 0), (.tup [(.var 0), (.int 1)])],
    .whl (.not (.call 6 [(.var 4), (.var 2)])) [
      .par [(false, 3), (false, 4)] [(.bin .add (.var 3) (.int 1)), (.call 5 [(.var 4), (.var 1)])]],
    .ret (.var 3)]
theorem sc_cups_as_strong : FnScope n_cups_as_strong p_cups_as_strong (defScope (topS 22)) := ⟨rfl, rfl, rfl, by decide +kernel, rfl, by decide +kernel, by decide +kernel⟩
theorem ck_cups_as_strong : chkSs ⟨(fnNames.take 17), csNames, blNames⟩ n_cups_as_strong false (defScope (topS 22)) ir_cups_as_strong (defBody (topS 22)) = true := by decide +kernel
theorem sc_law_load : FnScope NL ["box"] (defScope (topS 25)) := ⟨rfl, rfl, rfl, by decide +kernel, rfl, by decide +kernel, by decide +kernel⟩
theorem sc_law_box : FnScope ["script"] ["script"] (defScope (topS 24)) := ⟨rfl, rfl, rfl, by decide +kernel, rfl, by decide +kernel, by decide +kernel⟩
theorem sc_law_draw : FnScope ND ["box", "many"] (defScope (topS 26)) := ⟨rfl, rfl, rfl, by decide +kernel, rfl, by decide +kernel, by decide +kernel⟩
-- 19 _law_same (0 a, 1 b, 2 k)
def n_law_same : List Str := ["a", "b", "k"]
def p_law_same : List Str := ["a", "b"]
def ir_law_same : List TL.S := irSame 19
theorem sc_law_same : FnScope n_law_same p_law_same (defScope (topS 27)) := ⟨rfl, rfl, rfl, by decide +kernel, rfl, by decide +kernel, by decide +kernel⟩
theorem ck_law_same : chkSs ⟨(fnNames.take 20), csNames, blNames⟩ n_law_same false (defScope (topS 27)) ir_law_same (defBody (topS 27)) = true := by decide +kernel
-- 20 _law_bent (0 box, 1 value, 2 at, 3 pick)
def n_law_bent : List Str := ["box", "value", "at", "pick"]
def p_law_bent : List Str := ["box", "value"]
def ir_law_bent : List TL.S := [
    .ite (.and (.isi .tup (.var 1)) (.and (.cmp .gt (.b1 .len (.var 1)) (.int 0)) (.cmp .gt (.call 18 [(.var 0), (.int 5)]) (.int 0)))) [
      .asg (.nm 2) (.call 18 [(.var 0), (.b1 .len (.var 1))]),
      .ret (.bin .add (.bin .add (.sli (.var 1) .non (.var 2)) (.tup [(.call 20 [(.var 0), (.idx (.var 1) (.var 2))])])) (.sli (.var 1) (.bin .add (.var 2) (.int 1)) .non))] [],
    .asg (.nm 3) (.call 18 [(.var 0), (.int 8)]),
    .ite (.isi .tup (.var 1)) [
      .ret (.idx (.lst [(.bin .add (.var 1) (.sli (.var 1) .non (.int 1))), (.sli (.var 1) (.int 1) .non), (.rev (.var 1)), (.bin .add (.var 1) (.tup [(.int 0)])), (.bin .add (.sli (.var 1) .non (.int 1)) (.var 1)), (.sli (.var 1) .non (.neg (.int 1))), .non, (.sli (.var 1) .non (.int 1))]) (.var 3))] [],
    .ite (.and (.isi .int (.var 1)) (.not (.isi .bool (.var 1)))) [
      .ret (.idx (.lst [(.bin .add (.var 1) (.int 1)), (.bin .sub (.var 1) (.int 1)), (.neg (.var 1)), (.cmp .eq (.var 1) (.int 1)), .non, (.b1 .str (.var 1)), (.tup [(.var 1)]), (.bin .add (.var 1) (.int 1001))]) (.var 3))] [],
    .ite (.isi .str (.var 1)) [
      .ret (.idx (.lst [(.bin .add (.var 1) (.str "a")), (.sli (.var 1) (.int 1) .non), (.str "any"), .dead, (.int 0), (.str ""), (.bin .add (.var 1) (.str "z0z0z0z0")), (.tup [(.var 1)])]) (.var 3))] [],
    .ret (.idx (.lst [(.int 0), (.int 1), .non, (.bl true), (.bl false), (.str "a"), (.tup []), (.neg (.int 1))]) (.var 3))]
theorem sc_law_bent : FnScope n_law_bent p_law_bent (defScope (topS 28)) := ⟨rfl, rfl, rfl, by decide +kernel, rfl, by decide +kernel, by decide +kernel⟩
theorem ck_law_bent : chkSs ⟨(fnNames.take 21), csNames, blNames⟩ n_law_bent false (defScope (topS 28)) ir_law_bent (defBody (topS 28)) = true := by decide +kernel
-- 21 _law_ratio (0 p, 1 q, 2 a, 3 b)
def n_law_ratio : List Str := ["p", "q", "a", "b"]
def p_law_ratio : List Str := ["p", "q"]
def ir_law_ratio : List TL.S := [
    .par [(false, 2), (false, 3)] [(.b1 .abs (.var 0)), (.b1 .abs (.var 1))],
    .whl (.cmp .ne (.var 3) (.int 0)) [
      .par [(false, 2), (false, 3)] [(.var 3), (.bin .sub (.var 2) (.bin .mul (.bin .fdiv (.var 2) (.var 3)) (.var 3)))]],
    .ret (.ite (.cmp .gt (.var 1) (.int 0)) (.tup [(.bin .fdiv (.var 0) (.var 2)), (.bin .fdiv (.var 1) (.var 2))]) (.tup [(.bin .fdiv (.neg (.var 0)) (.var 2)), (.bin .fdiv (.neg (.var 1)) (.var 2))]))]
theorem sc_law_ratio : FnScope n_law_ratio p_law_ratio (defScope (topS 29)) := ⟨rfl, rfl, rfl, by decide +kernel, rfl, by decide +kernel, by decide +kernel⟩
theorem ck_law_ratio : chkSs ⟨(fnNames.take 21), csNames, blNames⟩ n_law_ratio false (defScope (topS 29)) ir_law_ratio (defBody (topS 29)) = true := by decide +kernel
-- 22 _law_plus (0 one, 1 other)
def n_law_plus : List Str := ["one", "other"]
def p_law_plus : List Str := ["one", "other"]
def ir_law_plus : List TL.S := [
    .ret (.call 21 [(.bin .add (.bin .mul (.idx (.var 0) (.int 0)) (.idx (.var 1) (.int 1))) (.bin .mul (.idx (.var 1) (.int 0)) (.idx (.var 0) (.int 1)))), (.bin .mul (.idx (.var 0) (.int 1)) (.idx (.var 1) (.int 1)))])]
theorem sc_law_plus : FnScope n_law_plus p_law_plus (defScope (topS 30)) := ⟨rfl, rfl, rfl, by decide +kernel, rfl, by decide +kernel, by decide +kernel⟩
theorem ck_law_plus : chkSs ⟨(fnNames.take 22), csNames, blNames⟩ n_law_plus false (defScope (topS 30)) ir_law_plus (defBody (topS 30)) = true := by decide +kernel
-- 23 _law_less (0 one, 1 other)
def n_law_less : List Str := ["one", "other"]
def p_law_less : List Str := ["one", "other"]
def ir_law_less : List TL.S := [
    .ret (.cmp .lt (.bin .mul (.idx (.var 0) (.int 0)) (.idx (.var 1) (.int 1))) (.bin .mul (.idx (.var 1) (.int 0)) (.idx (.var 0) (.int 1))))]
theorem sc_law_less : FnScope n_law_less p_law_less (defScope (topS 31)) := ⟨rfl, rfl, rfl, by decide +kernel, rfl, by decide +kernel, by decide +kernel⟩
theorem ck_law_less : chkSs ⟨(fnNames.take 23), csNames, blNames⟩ n_law_less false (defScope (topS 31)) ir_law_less (defBody (topS 31)) = true := by decide +kernel
-- 24 _law_sum (0 rows, 1 found, 2 row)
def n_law_sum : List Str := ["rows", "found", "row"]
def p_law_sum : List Str := ["rows"]
def ir_law_sum : List TL.S := [
    .asg (.nm 1) (.tup [(.int 0), (.int 1)]),
    .for_ (.nm 2) (.var 0) [
      .asg (.nm 1) (.call 22 [(.var 1), (.var 2)])],
    .ret (.var 1)]
theorem sc_law_sum : FnScope n_law_sum p_law_sum (defScope (topS 32)) := ⟨rfl, rfl, rfl, by decide +kernel, rfl, by decide +kernel, by decide +kernel⟩
theorem ck_law_sum : chkSs ⟨(fnNames.take 24), csNames, blNames⟩ n_law_sum false (defScope (topS 32)) ir_law_sum (defBody (topS 32)) = true := by decide +kernel
-- 25 _law_is_ratio (0 value, 1 part)
def n_law_is_ratio : List Str := ["value", "part"]
def p_law_is_ratio : List Str := ["value"]
def ir_law_is_ratio : List TL.S := [
    .ite (.or (.not (.isi .tup (.var 0))) (.or (.cmp .ne (.b1 .len (.var 0)) (.int 2)) (.not (.b1 .all (.comp (.and (.isi .int (.var 1)) (.not (.isi .bool (.var 1)))) (.nm 1) (.var 0) (.bl true) [1]))))) [
      .ret (.bl false)] [],
    .ret (.and (.cmp .gt (.idx (.var 0) (.int 1)) (.int 0)) (.cmp .eq (.call 21 [(.idx (.var 0) (.int 0)), (.idx (.var 0) (.int 1))]) (.var 0)))]
theorem sc_law_is_ratio : FnScope n_law_is_ratio p_law_is_ratio (defScope (topS 33)) := ⟨rfl, rfl, rfl, by decide +kernel, rfl, by decide +kernel, by decide +kernel⟩
theorem ck_law_is_ratio : chkSs ⟨(fnNames.take 25), csNames, blNames⟩ n_law_is_ratio false (defScope (topS 33)) ir_law_is_ratio (defBody (topS 33)) = true := by decide +kernel
-- 26 _law_run (0 leaves, 1 keep, 2 m, 3 found, 4 here, 5 k)
def n_law_run : List Str := ["leaves", "keep", "m", "found", "here", "k"]
def p_law_run : List Str := ["leaves", "keep", "m"]
def ir_law_run : List TL.S := [
    .par [(true, 3), (false, 4)] [(.lst []), (.tup [(.var 0), (.int 1)])],
    .for_ (.nm 5) (.rng (.int 0) (.var 2)) [
      .app 3 (.var 4),
      .asg (.nm 4) (.call 21 [(.bin .mul (.idx (.var 4) (.int 0)) (.idx (.var 1) (.int 0))), (.bin .mul (.idx (.var 4) (.int 1)) (.idx (.var 1) (.int 1)))])],
    .frz 3,
    .ret (.var 3)]
theorem sc_law_run : FnScope n_law_run p_law_run (defScope (topS 34)) := ⟨rfl, rfl, rfl, by decide +kernel, rfl, by decide +kernel, by decide +kernel⟩
theorem ck_law_run : chkSs ⟨(fnNames.take 26), csNames, blNames⟩ n_law_run false (defScope (topS 34)) ir_law_run (defBody (topS 34)) = true := by decide +kernel
-- law (0 script, 1 box, 2 turn, 3 q, 4 keep, 5 leaves, 6 m, 7 run, 8 whole, 9 power, 10 due, 11 limit, 12 need, 13 last, 14 every, 15 told, 16 one, 17 weak, 18 k, 19 value, 20 ratio)
def n_law : List Str := ["script", "box", "turn", "q", "keep", "leaves", "m", "run", "whole", "power", "due", "limit", "need", "last", "every", "told", "one", "weak", "k", "value", "ratio"]
def p_law : List Str := ["script"]
def ir_law : List TL.S := [
    .ite (.cmp .ne (.tup [(.glo 0), (.glo 1)]) (.tup [(.int 100), (.int 30)])) [
      .ret (.bl false)] [],
    .for_ (.nm 2) (.rng (.int 0) (.int 5)) [
      .asg (.nm 3) (.bin .add (.int 1) (.call 18 [(.var 1), (.int 9)])),
      .asg (.tp [(.nm 4), (.nm 5), (.nm 6)]) (.tup [(.call 21 [(.call 18 [(.var 1), (.var 3)]), (.var 3)]), (.bin .add (.int 1) (.call 18 [(.var 1), (.int 100)])), (.bin .add (.int 1) (.call 18 [(.var 1), (.int 9)]))]),
      .asg (.nm 7) (.call 26 [(.var 5), (.var 4), (.int 31)]),
      .ite (.or (.cmp .isn (.call 8 [(.var 4)]) (.bl true)) (.not (.call 19 [(.tup [(.call 11 [(.var 5), (.var 4), (.var 6)]), (.call 10 [(.var 5), (.var 4), (.var 6)])]), (.tup [(.b1 .tup (.sli (.var 7) .non (.var 6))), (.idx (.var 7) (.var 6))])]))) [
        .ret (.bl false)] [],
      .par [(false, 8), (false, 9)] [(.call 24 [(.sli (.var 7) .non (.var 6))]), (.idx (.call 26 [(.int 1), (.var 4), (.bin .add (.var 6) (.int 1))]) (.var 6))],
      .asg (.nm 10) (.call 21 [(.bin .mul (.bin .mul (.var 5) (.bin .sub (.idx (.var 9) (.int 1)) (.idx (.var 9) (.int 0)))) (.idx (.var 4) (.int 1))), (.bin .mul (.idx (.var 9) (.int 1)) (.bin .sub (.idx (.var 4) (.int 1)) (.idx (.var 4) (.int 0))))]),
      .asg (.nm 11) (.call 21 [(.bin .mul (.var 5) (.idx (.var 4) (.int 1))), (.bin .sub (.idx (.var 4) (.int 1)) (.idx (.var 4) (.int 0)))]),
      .ite (.or (.not (.call 19 [(.tup [(.call 12 [(.var 5), (.var 4), (.var 6)]), (.call 13 [(.var 5), (.var 4)]), (.call 9 [(.var 4), (.var 6)])]), (.tup [(.var 8), (.var 11), (.var 9)])])) (.cmp .ne (.var 8) (.var 10))) [
        .ret (.bl false)] [],
      .ite (.and (.cmp .gt (.idx (.var 4) (.int 0)) (.int 0)) (.not (.call 23 [(.var 8), (.var 11)]))) [
        .ret (.bl false)] [],
      .asg (.nm 12) (.call 21 [(.bin .add (.int 1) (.call 18 [(.var 1), (.int 60)])), (.bin .add (.int 1) (.call 18 [(.var 1), (.int 6)]))]),
      .par [(false, 13), (false, 14)] [(.idx (.call 26 [(.int 1), (.var 4), (.var 6)]) (.neg (.int 1))), (.call 24 [(.call 26 [(.int 1), (.var 4), (.var 6)])])],
      .for_ (.tp [(.nm 15), (.nm 16)]) (.tup [(.tup [(.call 15 [(.var 4), (.var 6), (.var 12)]), (.var 13)]), (.tup [(.call 16 [(.var 4), (.var 6), (.var 12)]), (.var 14)])]) [
        .ite (.cmp .ne (.cmp .is_ (.var 15) .non) (.cmp .eq (.idx (.var 16) (.int 0)) (.int 0))) [
          .ret (.bl false)] [],
        .ite (.cmp .isn (.var 15) .non) [
          .ite (.or (.not (.isi .int (.var 15))) (.or (.isi .bool (.var 15)) (.or (.cmp .lt (.var 15) (.int 1)) (.call 23 [(.call 21 [(.bin .mul (.idx (.var 16) (.int 0)) (.var 15)), (.idx (.var 16) (.int 1))]), (.var 12)])))) [
            .ret (.bl false)] [],
          .ite (.or (.and (.cmp .gt (.var 15) (.int 1)) (.not (.call 23 [(.call 21 [(.bin .mul (.idx (.var 16) (.int 0)) (.bin .sub (.var 15) (.int 1))), (.idx (.var 16) (.int 1))]), (.var 12)]))) (.not (.call 19 [(.call 14 [(.var 12), (.var 16)]), (.var 15)]))) [
            .ret (.bl false)] []] []],
      .asg (.nm 17) (.comp (.var 18) (.nm 18) (.rng (.int 0) (.int 31)) (.call 23 [(.idx (.var 7) (.var 18)), (.var 12)]) [18]),
      .ite (.or (.and (.cmp .ne (.var 17) (.lst [])) (.not (.call 19 [(.call 17 [(.var 5), (.var 4), (.var 12)]), (.idx (.var 17) (.int 0))]))) (.and (.cmp .eq (.var 17) (.lst [])) (.cmp .lt (.call 17 [(.var 5), (.var 4), (.var 12)]) (.int 31)))) [
        .ret (.bl false)] [],
      .for_ (.nm 19) (.bin .add (.lst [(.var 4), (.var 12), (.tup [(.int 0), (.int 1)]), (.tup [(.int 1), (.int 1)]), (.tup [(.int 3), (.int 2)]), (.tup [(.int 2), (.int 4)]), (.tup [(.neg (.int 1)), (.int 2)]), (.tup [(.bl true), (.int 2)]), (.tup [(.int 1)]), .non, (.tup []), (.int 0)]) (.comp (.call 20 [(.var 1), (.var 4)]) (.nm 18) (.rng (.int 0) (.int 4)) (.bl true) [18])) [
        .asg (.nm 20) (.call 25 [(.var 19)]),
        .ite (.not (.call 19 [(.call 8 [(.var 19)]), (.ite (.var 20) (.chain .le .lt (.int 0) (.idx (.var 19) (.int 0)) (.idx (.var 19) (.int 1))) (.bl false))])) [
          .ret (.bl false)] []]],
    .ret (.call 19 [(.tup [(.call 12 [(.int 8), (.tup [(.int 1), (.int 2)]), (.int 3)]), (.call 15 [(.tup [(.int 1), (.int 2)]), (.int 3), (.tup [(.int 5), (.int 2)])]), (.call 15 [(.tup [(.int 0), (.int 1)]), (.int 2), (.tup [(.int 1), (.int 1)])])]), (.tup [(.tup [(.int 14), (.int 1)]), (.int 10), .non])])]
theorem sc_law : FnScope n_law p_law (defScope (topS 35)) := ⟨rfl, rfl, rfl, by decide +kernel, rfl, by decide +kernel, by decide +kernel⟩
theorem ck_law : chkSs ⟨fnNames, csNames, blNames⟩ n_law false (defScope (topS 35)) ir_law (defBody (topS 35)).tail = true := by decide +kernel
def lb0 : TL.S :=
      .asg (.nm 3) (.bin .add (.int 1) (.call 18 [(.var 1), (.int 9)]))
def lb1 : TL.S :=
      .asg (.tp [(.nm 4), (.nm 5), (.nm 6)]) (.tup [(.call 21 [(.call 18 [(.var 1), (.var 3)]), (.var 3)]), (.bin .add (.int 1) (.call 18 [(.var 1), (.int 100)])), (.bin .add (.int 1) (.call 18 [(.var 1), (.int 9)]))])
def lb2 : TL.S :=
      .asg (.nm 7) (.call 26 [(.var 5), (.var 4), (.int 31)])
def lb3 : TL.S :=
      .ite (.or (.cmp .isn (.call 8 [(.var 4)]) (.bl true)) (.not (.call 19 [(.tup [(.call 11 [(.var 5), (.var 4), (.var 6)]), (.call 10 [(.var 5), (.var 4), (.var 6)])]), (.tup [(.b1 .tup (.sli (.var 7) .non (.var 6))), (.idx (.var 7) (.var 6))])]))) [
        .ret (.bl false)] []
def lb4 : TL.S :=
      .par [(false, 8), (false, 9)] [(.call 24 [(.sli (.var 7) .non (.var 6))]), (.idx (.call 26 [(.int 1), (.var 4), (.bin .add (.var 6) (.int 1))]) (.var 6))]
def lb5 : TL.S :=
      .asg (.nm 10) (.call 21 [(.bin .mul (.bin .mul (.var 5) (.bin .sub (.idx (.var 9) (.int 1)) (.idx (.var 9) (.int 0)))) (.idx (.var 4) (.int 1))), (.bin .mul (.idx (.var 9) (.int 1)) (.bin .sub (.idx (.var 4) (.int 1)) (.idx (.var 4) (.int 0))))])
def lb6 : TL.S :=
      .asg (.nm 11) (.call 21 [(.bin .mul (.var 5) (.idx (.var 4) (.int 1))), (.bin .sub (.idx (.var 4) (.int 1)) (.idx (.var 4) (.int 0)))])
def lb7 : TL.S :=
      .ite (.or (.not (.call 19 [(.tup [(.call 12 [(.var 5), (.var 4), (.var 6)]), (.call 13 [(.var 5), (.var 4)]), (.call 9 [(.var 4), (.var 6)])]), (.tup [(.var 8), (.var 11), (.var 9)])])) (.cmp .ne (.var 8) (.var 10))) [
        .ret (.bl false)] []
def lb8 : TL.S :=
      .ite (.and (.cmp .gt (.idx (.var 4) (.int 0)) (.int 0)) (.not (.call 23 [(.var 8), (.var 11)]))) [
        .ret (.bl false)] []
def lb9 : TL.S :=
      .asg (.nm 12) (.call 21 [(.bin .add (.int 1) (.call 18 [(.var 1), (.int 60)])), (.bin .add (.int 1) (.call 18 [(.var 1), (.int 6)]))])
def lb10 : TL.S :=
      .par [(false, 13), (false, 14)] [(.idx (.call 26 [(.int 1), (.var 4), (.var 6)]) (.neg (.int 1))), (.call 24 [(.call 26 [(.int 1), (.var 4), (.var 6)])])]
def lb11 : TL.S :=
      .for_ (.tp [(.nm 15), (.nm 16)]) (.tup [(.tup [(.call 15 [(.var 4), (.var 6), (.var 12)]), (.var 13)]), (.tup [(.call 16 [(.var 4), (.var 6), (.var 12)]), (.var 14)])]) [
        .ite (.cmp .ne (.cmp .is_ (.var 15) .non) (.cmp .eq (.idx (.var 16) (.int 0)) (.int 0))) [
          .ret (.bl false)] [],
        .ite (.cmp .isn (.var 15) .non) [
          .ite (.or (.not (.isi .int (.var 15))) (.or (.isi .bool (.var 15)) (.or (.cmp .lt (.var 15) (.int 1)) (.call 23 [(.call 21 [(.bin .mul (.idx (.var 16) (.int 0)) (.var 15)), (.idx (.var 16) (.int 1))]), (.var 12)])))) [
            .ret (.bl false)] [],
          .ite (.or (.and (.cmp .gt (.var 15) (.int 1)) (.not (.call 23 [(.call 21 [(.bin .mul (.idx (.var 16) (.int 0)) (.bin .sub (.var 15) (.int 1))), (.idx (.var 16) (.int 1))]), (.var 12)]))) (.not (.call 19 [(.call 14 [(.var 12), (.var 16)]), (.var 15)]))) [
            .ret (.bl false)] []] []]
def lb12 : TL.S :=
      .asg (.nm 17) (.comp (.var 18) (.nm 18) (.rng (.int 0) (.int 31)) (.call 23 [(.idx (.var 7) (.var 18)), (.var 12)]) [18])
def lb13 : TL.S :=
      .ite (.or (.and (.cmp .ne (.var 17) (.lst [])) (.not (.call 19 [(.call 17 [(.var 5), (.var 4), (.var 12)]), (.idx (.var 17) (.int 0))]))) (.and (.cmp .eq (.var 17) (.lst [])) (.cmp .lt (.call 17 [(.var 5), (.var 4), (.var 12)]) (.int 31)))) [
        .ret (.bl false)] []
def lb14 : TL.S :=
      .for_ (.nm 19) (.bin .add (.lst [(.var 4), (.var 12), (.tup [(.int 0), (.int 1)]), (.tup [(.int 1), (.int 1)]), (.tup [(.int 3), (.int 2)]), (.tup [(.int 2), (.int 4)]), (.tup [(.neg (.int 1)), (.int 2)]), (.tup [(.bl true), (.int 2)]), (.tup [(.int 1)]), .non, (.tup []), (.int 0)]) (.comp (.call 20 [(.var 1), (.var 4)]) (.nm 18) (.rng (.int 0) (.int 4)) (.bl true) [18])) [
        .asg (.nm 20) (.call 25 [(.var 19)]),
        .ite (.not (.call 19 [(.call 8 [(.var 19)]), (.ite (.var 20) (.chain .le .lt (.int 0) (.idx (.var 19) (.int 0)) (.idx (.var 19) (.int 1))) (.bl false))])) [
          .ret (.bl false)] []]
theorem law_eq : ir_law = [
  .ite (.cmp .ne (.tup [(.glo 0), (.glo 1)]) (.tup [(.int 100), (.int 30)])) [
      .ret (.bl false)] [],
  .for_ (.nm 2) (.rng (.int 0) (.int 5)) [lb0, lb1, lb2, lb3, lb4, lb5, lb6, lb7, lb8, lb9, lb10, lb11, lb12, lb13, lb14],
  .ret (.call 19 [(.tup [(.call 12 [(.int 8), (.tup [(.int 1), (.int 2)]), (.int 3)]), (.call 15 [(.tup [(.int 1), (.int 2)]), (.int 3), (.tup [(.int 5), (.int 2)])]), (.call 15 [(.tup [(.int 0), (.int 1)]), (.int 2), (.tup [(.int 1), (.int 1)])])]), (.tup [(.tup [(.int 14), (.int 1)]), (.int 10), .non])])] := rfl
/-! ### plain -/
/-- the cup's strength -/
def st (l : Int) (x : Rat) (k : Nat) : Rat := (l : Rat) * x ^ k
/-- the first cups' strengths together -/
def whl (l : Int) (x : Rat) : Nat → Rat
  | 0 => 0
  | m + 1 => whl l x m + st l x m
/-- the least times -/
def lt (y one : Rat) : Int :=
  let w := Rat.divInt (y.num * one.den) (y.den * one.num)
  if w.floor + (if w.den = 1 then 0 else 1) > 1 then w.floor + (if w.den = 1 then 0 else 1) else 1
def isKp (t : T) : Bool := isRt t && match t with
  | .tup [.int p, .int q] => decide (0 ≤ p) && decide (p < q)
  | _ => false
/-! ### promises -/
/-- a ratio from 0 to below 1, of small parts -/
def Kp1 (x : Rat) : Prop := RBd 4 x ∧ 0 ≤ x ∧ x < 1
def sp8 (ts : List T) (Q : T → Prop) : Prop := ∃ t, ts = [t] ∧ t.pl = true ∧ (∀ p q, t = .tup [.int p, .int q] → p.natAbs < 2 ^ 8000 ∧ q.natAbs < 2 ^ 8000) ∧ Q (.bl (isKp t))
def sp9 (ts : List T) (Q : T → Prop) : Prop := ∃ (x : Rat) (m : Nat), ts = [rT x, .int m] ∧ RBd 4 x ∧ m ≤ 100 ∧ Q (rT (x ^ m))
def sp10 (ts : List T) (Q : T → Prop) : Prop := ∃ (l : Int) (x : Rat) (k : Nat), ts = [.int l, rT x, .int k] ∧ l.natAbs < 2 ^ 7 ∧ RBd 4 x ∧ k ≤ 100 ∧ Q (rT (st l x k))
def sp11 (ts : List T) (Q : T → Prop) : Prop := ∃ (l : Int) (x : Rat) (m : Nat), ts = [.int l, rT x, .int m] ∧ l.natAbs < 2 ^ 7 ∧ RBd 4 x ∧ m ≤ 10 ∧ Q (.tup ((List.range m).map fun k => rT (st l x k)))
def sp12 (ts : List T) (Q : T → Prop) : Prop := ∃ (l : Int) (x : Rat) (m : Nat), ts = [.int l, rT x, .int m] ∧ l.natAbs < 2 ^ 7 ∧ RBd 4 x ∧ m ≤ 10 ∧ Q (rT (whl l x m))
def sp13 (ts : List T) (Q : T → Prop) : Prop := ∃ (l : Int) (x : Rat), ts = [.int l, rT x] ∧ l.natAbs < 2 ^ 7 ∧ RBd 4 x ∧ x.num < x.den ∧ Q (rT (Rat.divInt (l * x.den) (x.den - x.num)))
def sp14 (ts : List T) (Q : T → Prop) : Prop := ∃ y one : Rat, ts = [rT y, rT one] ∧ RBd 1000 y ∧ RBd 1000 one ∧ one ≠ 0 ∧ Q (.int (lt y one))
def sp15 (ts : List T) (Q : T → Prop) : Prop := ∃ (x : Rat) (m : Nat) (y : Rat), ts = [rT x, .int m, rT y] ∧ RBd 4 x ∧ 1 ≤ m ∧ m ≤ 10 ∧ RBd 1000 y ∧ Q (if (x ^ (m - 1)).num = 0 then .non else .int (lt y (x ^ (m - 1))))
def sp16 (ts : List T) (Q : T → Prop) : Prop := ∃ (x : Rat) (m : Nat) (y : Rat), ts = [rT x, .int m, rT y] ∧ RBd 4 x ∧ m ≤ 10 ∧ RBd 1000 y ∧ whl 1 x m ≠ 0 ∧ Q (.int (lt y (whl 1 x m)))
def sp17 (ts : List T) (Q : T → Prop) : Prop := ∃ (l : Int) (x y : Rat), ts = [.int l, rT x, rT y] ∧ l.natAbs < 2 ^ 7 ∧ RBd 4 x ∧ RBd 1000 y ∧ (∃ N ≤ 60, st l x N < y) ∧ ∀ n : Nat, n ≤ 60 → (∀ k < n, ¬ st l x k < y) → st l x n < y → Q (.int n)
def sp24 (ts : List T) (Q : T → Prop) : Prop := ∃ (xs : List Rat), ts = [.lst (xs.map rT)] ∧ (∀ x ∈ xs, RBd 200 x) ∧ xs.length ≤ 12 ∧ Q (rT (xs.foldl (· + ·) 0))
def sp26 (ts : List T) (Q : T → Prop) : Prop := ∃ (l : Int) (x : Rat) (m : Nat), ts = [.int l, rT x, .int m] ∧ l.natAbs < 2 ^ 7 ∧ RBd 4 x ∧ m ≤ 40 ∧ Q (.lst ((List.range m).map fun k => rT (st l x k)))
def D_law_same : Nat := 4
def D_law_bent : Nat := 3
abbrev sp_law_same := spSame
abbrev sp_law_bent := spBent
def fnG : Nat → List T → (T → Prop) → Prop
  | 0 => spWhole | 1 => spGcd | 2 => spRat | 3 => spIsR | 4 => spSum | 5 => spTimes | 6 => spBelow | 7 => spFloor | 8 => sp8 | 9 => sp9 | 10 => sp10 | 11 => sp11 | 12 => sp12 | 13 => sp13 | 14 => sp14 | 15 => sp15
  | 16 => sp16 | 17 => sp17 | 18 => spDraw | 19 => spSame 4 | 20 => spBent 3 | 21 => spRat | 22 => spSum | 23 => spBelow | 24 => sp24 | 25 => spIsR | 26 => sp26 | _ => fun _ _ => False
def GG : Gm := ⟨fnG, fun i => csVals.getD i .non⟩
theorem z_law_same (ts : List T) (Q : T → Prop) : ¬ spSame 0 ts Q := fun ⟨a, b, _, _, _, h, _⟩ => by omega
theorem w_law_same (d : Nat) (ts : List T) (Q : T → Prop) (h : spSame (d + 1) ts Q) : wFn (GG.put 19 (spSame d)) false ⟨p_law_same.length, n_law_same.length, ir_law_same⟩ ts Q := w_same ts Q h
theorem z_law_bent (ts : List T) (Q : T → Prop) : ¬ spBent 0 ts Q := fun ⟨v, _, _, h, _⟩ => by omega
theorem w_law_bent (d : Nat) (ts : List T) (Q : T → Prop) (h : spBent (d + 1) ts Q) : wFn (GG.put 20 (spBent d)) false ⟨p_law_bent.length, n_law_bent.length, ir_law_bent⟩ ts Q := w_bent1 (dr := 18) (n := 20) rfl (by decide) ts Q h
theorem w_is_whole (ts : List T) (Q : T → Prop) (h : spWhole ts Q) : wFn GG false ⟨p_is_whole.length, n_is_whole.length, ir_is_whole⟩ ts Q := w_whole ts Q h
theorem w_divisor_of (ts : List T) (Q : T → Prop) (h : spGcd ts Q) : wFn GG false ⟨p_divisor_of.length, n_divisor_of.length, ir_divisor_of⟩ ts Q := w_gcd ts Q h
theorem w_ratio_of (ts : List T) (Q : T → Prop) (h : spRat ts Q) : wFn GG false ⟨p_ratio_of.length, n_ratio_of.length, ir_ratio_of⟩ ts Q := w_rat (d := 1) rfl ts Q h
theorem w_is_ratio (ts : List T) (Q : T → Prop) (h : spIsR ts Q) : wFn GG false ⟨p_is_ratio.length, n_is_ratio.length, ir_is_ratio⟩ ts Q := w_isR (w := 0) (r := 2) rfl rfl ts Q h
theorem w_sum_of (ts : List T) (Q : T → Prop) (h : spSum ts Q) : wFn GG false ⟨p_sum_of.length, n_sum_of.length, ir_sum_of⟩ ts Q := w_sum (r := 2) rfl ts Q h
theorem w_times_of (ts : List T) (Q : T → Prop) (h : spTimes ts Q) : wFn GG false ⟨p_times_of.length, n_times_of.length, ir_times_of⟩ ts Q := w_times (r := 2) rfl ts Q h
theorem w_is_below (ts : List T) (Q : T → Prop) (h : spBelow ts Q) : wFn GG false ⟨p_is_below.length, n_is_below.length, ir_is_below⟩ ts Q := w_below ts Q h
theorem w_floor_of (ts : List T) (Q : T → Prop) (h : spFloor ts Q) : wFn GG false ⟨p_floor_of.length, n_floor_of.length, ir_floor_of⟩ ts Q := w_floor ts Q h
theorem w_law_ratio (ts : List T) (Q : T → Prop) (h : spRat ts Q) : wFn GG false ⟨p_law_ratio.length, n_law_ratio.length, ir_law_ratio⟩ ts Q := w_lawRat ts Q h
theorem w_law_plus (ts : List T) (Q : T → Prop) (h : spSum ts Q) : wFn GG false ⟨p_law_plus.length, n_law_plus.length, ir_law_plus⟩ ts Q := w_sum (r := 21) rfl ts Q h
theorem w_law_less (ts : List T) (Q : T → Prop) (h : spBelow ts Q) : wFn GG false ⟨p_law_less.length, n_law_less.length, ir_law_less⟩ ts Q := w_below ts Q h
/-! ### sizes -/
theorem bd_pow {x : Rat} (h : RBd 4 x) : ∀ m : Nat, RBd (4 * m + 1) (x ^ m)
  | 0 => by
    rw [Rat.pow_zero]
    exact ⟨by decide, by decide⟩
  | m + 1 => by
    rw [Rat.pow_succ]
    exact (RBd.mul (bd_pow h m) h).mono (by omega)
theorem bd_st {l : Int} {x : Rat} (hl : l.natAbs < 2 ^ 7) (h : RBd 4 x) (k : Nat) : RBd (4 * k + 8) (st l x k) := (RBd.mul (RBd.int hl (by decide)) (bd_pow h k)).mono (by omega)
theorem bd_whl {l : Int} {x : Rat} (hl : l.natAbs < 2 ^ 7) (h : RBd 4 x) : ∀ m ≤ 12, RBd (60 * m + 1) (whl l x m)
  | 0, _ => show RBd 1 (0 : Rat) from ⟨by decide, by decide⟩
  | m + 1, hm => (RBd.add (bd_whl hl h m (by omega)) (bd_st hl h m)).mono (by omega)
theorem rT_one : rT 1 = .tup [.int 1, .int 1] := rfl
theorem rT_zero : rT 0 = .tup [.int 0, .int 1] := rfl
theorem st_zero (l : Int) (x : Rat) : st l x 0 = (l : Rat) := by unfold st; rw [Rat.pow_zero, Rat.mul_one]
theorem st_succ (l : Int) (x : Rat) (k : Nat) : st l x (k + 1) = st l x k * x := by unfold st; rw [Rat.pow_succ, Rat.mul_assoc]
theorem pow1 (x : Rat) (k : Nat) : st 1 x k = x ^ k := by unfold st; rw [Rat.intCast_one, Rat.one_mul]
/-! ### walks -/
theorem isRt_pair {t : T} (h : isRt t = true) : ∃ p q : Int, t = .tup [.int p, .int q] := by
  unfold isRt at h
  split at h
  · exact ⟨_, _, rfl⟩
  · cases h
theorem w_is_keep (ts : List T) (Q : T → Prop) (h : sp8 ts Q) : wFn GG false ⟨p_is_keep.length, n_is_keep.length, ir_is_keep⟩ ts Q := by
  obtain ⟨t, rfl, hp, hb, q⟩ := h
  refine ⟨rfl, ?_⟩
  show wSs GG ir_is_keep _ [.val t]
  simp only [ir_is_keep, wSs, wS, TL.wE, wEs, slV]
  refine ⟨t, rfl, hp, hb, ?_⟩
  simp only [tru]
  cases e : isRt t with
  | false =>
    simp only [Bool.false_eq_true, if_false]
    unfold isKp at q
    rw [e, Bool.false_and] at q
    exact q
  | true =>
    obtain ⟨p, d, rfl⟩ := isRt_pair e
    unfold isKp at q
    rw [e, Bool.true_and] at q
    simp only [if_true, idxF, atI0, atI1, Option.some.injEq, exists_eq_left', cmp2, leF, ltF]
    refine ⟨_, rfl, ?_⟩
    by_cases c : 0 ≤ p
    · rw [if_pos (decide_eq_true c)]
      simpa only [decide_eq_true c, Bool.true_and] using q
    · rw [if_neg (by simpa using c)]
      simpa only [decide_eq_false c, Bool.false_and] using q
theorem w_kept_power (ts : List T) (Q : T → Prop) (h : sp9 ts Q) : wFn GG false ⟨p_kept_power.length, n_kept_power.length, ir_kept_power⟩ ts Q := by
  obtain ⟨x, m, rfl, hx, hm, q⟩ := h
  refine ⟨rfl, ?_⟩
  show wSs GG ir_kept_power _ [.val (rT x), .val (.int m), .no, .no]
  have sz : sizeLine = 16777216 := sizeLine_eq
  simp only [ir_kept_power, wSs, wS, TL.wE, wEs, slV, asg, List.set]
  refine ⟨(show 2 ≤ 1000 by decide), 0, m, rfl, rfl, ⟨by decide, by decide, by omega, by omega⟩, by omega, ?_⟩
  have e : ((m : Int) - 0).toNat = m := by omega
  rw [e]
  simp only [seqOf]
  refine wFor_inv (fun i σ => ∃ s, σ = [.val (rT x), .val (.int m), .val (rT (x ^ i)), s]) _ (fun i y σ nx hy hI hn => ?_) (fun σ hI => ?_) _ ⟨_, by rw [Rat.pow_zero, rT_one]⟩
  · obtain ⟨s, rfl⟩ := hI
    obtain ⟨hi, rfl⟩ := rngL_get hy
    simp only [asg, List.set, slV]
    exact ⟨x ^ i, x, rfl, (bd_pow hx i).mono (by omega), hx.mono (by omega), hn _ ⟨_, by rw [Rat.pow_succ]⟩⟩
  · obtain ⟨s, rfl⟩ := hI
    rw [rngL_len]
    simpa only [slV] using q
theorem w_strength_of (ts : List T) (Q : T → Prop) (h : sp10 ts Q) : wFn GG false ⟨p_strength_of.length, n_strength_of.length, ir_strength_of⟩ ts Q := by
  obtain ⟨l, x, k, rfl, hl, hx, hk, q⟩ := h
  refine ⟨rfl, ?_⟩
  show wSs GG ir_strength_of _ [.val (.int l), .val (rT x), .val (.int k)]
  simp only [ir_strength_of, wSs, wS, TL.wE, wEs, slV]
  refine ⟨(show 2 ≤ 1000 by decide), x, k, rfl, hx, hk, ?_⟩
  exact ⟨(l : Rat), x ^ k, by rw [rT_int], (RBd.int hl (by decide)).mono (by omega), (bd_pow hx k).mono (by omega), q⟩
theorem flat_rng {g : T → List T} {h : Nat → T} (a : Int) (n : Nat) (e : ∀ k : Nat, g (.int (a + (k : Int))) = [h k]) : ((rngL a n).map g).flatten = (List.range n).map h := by
  unfold rngL
  generalize List.range n = l
  induction l with
  | nil => rfl
  | cons x r ih => simp only [List.map_cons, List.flatten_cons, ih, e]; rfl
theorem w_cup_strengths (ts : List T) (Q : T → Prop) (h : sp11 ts Q) : wFn GG false ⟨p_cup_strengths.length, n_cup_strengths.length, ir_cup_strengths⟩ ts Q := by
  obtain ⟨l, x, m, rfl, hl, hx, hm, q⟩ := h
  refine ⟨rfl, ?_⟩
  show wSs GG ir_cup_strengths _ [.val (.int l), .val (rT x), .val (.int m), .no]
  have sz : sizeLine = 16777216 := sizeLine_eq
  simp only [ir_cup_strengths, wSs, wS, TL.wE, wEs, slV]
  refine ⟨0, m, rfl, rfl, ⟨by decide, by decide, by omega, by omega⟩, by omega, ?_⟩
  have e : ((m : Int) - 0).toNat = m := by omega
  rw [e]
  simp only [seqOf, wipeT, List.set]
  refine wFold_map (g := fun y => match y with | .int i => [rT (st l x i.toNat)] | _ => []) (fun y hy acc k hk => ?_) ?_
  · obtain ⟨i, hi, rfl⟩ := rngL_mem hy
    simp only [asg, List.set, slV, tru, if_true]
    have e0 : ((0 : Int) + (i : Int)).toNat = i := by omega
    refine ⟨l, x, i, by simp only [List.cons.injEq, T.int.injEq, and_true, true_and]; omega, hl, hx, by omega, ?_⟩
    simpa only [e0] using hk
  · rw [flat_rng (h := fun k => rT (st l x k)) 0 m fun k => by
      have e0 : ((0 : Int) + (k : Int)).toNat = k := by omega
      simp only [e0], List.nil_append]
    simpa only [b1F] using q
theorem w_whole_strength (ts : List T) (Q : T → Prop) (h : sp12 ts Q) : wFn GG false ⟨p_whole_strength.length, n_whole_strength.length, ir_whole_strength⟩ ts Q := by
  obtain ⟨l, x, m, rfl, hl, hx, hm, q⟩ := h
  refine ⟨rfl, ?_⟩
  show wSs GG ir_whole_strength _ [.val (.int l), .val (rT x), .val (.int m), .no, .no]
  simp only [ir_whole_strength, wSs, wS, TL.wE, wEs, slV, asg, List.set]
  refine ⟨(show 2 ≤ 1000 by decide), l, x, m, rfl, hl, hx, hm, ?_⟩
  simp only [seqOf]
  refine wFor_inv (fun i σ => ∃ s, σ = [.val (.int l), .val (rT x), .val (.int m), .val (rT (whl l x i)), s]) _ (fun i y σ nx hy hI hn => ?_) (fun σ hI => ?_) _ ⟨_, rfl⟩
  · obtain ⟨s, rfl⟩ := hI
    rw [List.getElem?_map] at hy
    have hi : i < m := by
      rcases Nat.lt_or_ge i m with c | c
      · exact c
      · rw [List.getElem?_eq_none (by simpa using c)] at hy; cases hy
    rw [List.getElem?_range hi] at hy
    simp only [Option.map_some, Option.some.injEq] at hy
    subst hy
    simp only [asg, List.set, slV]
    exact ⟨whl l x i, st l x i, rfl, (bd_whl hl hx i (by omega)).mono (by omega), (bd_st hl hx i).mono (by omega), hn _ ⟨_, rfl⟩⟩
  · obtain ⟨s, rfl⟩ := hI
    rw [List.length_map, List.length_range]
    simpa only [slV] using q
theorem w_strength_limit (ts : List T) (Q : T → Prop) (h : sp13 ts Q) : wFn GG false ⟨p_strength_limit.length, n_strength_limit.length, ir_strength_limit⟩ ts Q := by
  obtain ⟨l, x, rfl, hl, hx, hlt, q⟩ := h
  refine ⟨rfl, ?_⟩
  show wSs GG ir_strength_limit _ [.val (.int l), .val (rT x)]
  have hd : (x.den : Int).natAbs < 2 ^ 4 := by simpa using hx.2
  have hn := hx.1
  have hmul : (l * (x.den : Int)).natAbs < 2 ^ 11 := by
    rw [Int.natAbs_mul, show (2 : Nat) ^ 11 = 2 ^ 7 * 2 ^ 4 by decide]
    exact Nat.mul_lt_mul'' hl hd
  have p11 : (2 : Nat) ^ 11 ≤ 2 ^ 8000 := Nat.pow_le_pow_right (by decide) (by decide)
  simp only [ir_strength_limit, wSs, wS, TL.wE, wEs, slV, rT, idxF, atI0, atI1, Option.some.injEq, exists_eq_left', bin2]
  refine ⟨mulOk_lt hl hd (by decide) (by decide) (by decide), l * x.den, x.den - x.num, rfl, by omega, Nat.lt_of_lt_of_le hmul p11, Nat.lt_of_lt_of_le (show ((x.den : Int) - x.num).natAbs < 2 ^ 11 by omega) p11, q⟩
theorem w_least_times (ts : List T) (Q : T → Prop) (h : sp14 ts Q) : wFn GG false ⟨p_least_times.length, n_least_times.length, ir_least_times⟩ ts Q := by
  obtain ⟨y, one, rfl, hy, ho, h0, q⟩ := h
  refine ⟨rfl, ?_⟩
  show wSs GG ir_least_times _ [.val (rT y), .val (rT one), .no]
  have hy' := hy.mono (l := 3000) (by decide)
  have ho' := ho.mono (l := 3000) (by decide)
  obtain ⟨m1, b1⟩ := bd_mul hy'.1 (bd_den ho')
  obtain ⟨m2, b2⟩ := bd_mul (bd_den hy') ho'.1
  have n0 : (y.den : Int) * one.num ≠ 0 := Int.mul_ne_zero (by have := y.den_pos; omega) fun z => h0 (Rat.num_eq_zero.mp z)
  have p := p8
  simp only [ir_least_times, wSs, wS, TL.wE, wEs, slV, rT, idxF, atI0, atI1, Option.some.injEq, exists_eq_left', bin2]
  refine ⟨m1, m2, _, _, rfl, n0, by omega, by omega, ?_⟩
  have hw : RBd 2000 (Rat.divInt (y.num * one.den) (y.den * one.num)) := by
    refine divInt_bd n0 ?_ ?_
    · rw [Int.natAbs_mul, show (2 : Nat) ^ 2000 = 2 ^ 1000 * 2 ^ 1000 by rw [← Nat.pow_add]]
      exact Nat.mul_lt_mul'' hy.1 (by simpa using ho.2)
    · rw [Int.natAbs_mul, show (2 : Nat) ^ 2000 = 2 ^ 1000 * 2 ^ 1000 by rw [← Nat.pow_add]]
      exact Nat.mul_lt_mul'' (by simpa using hy.2) ho.1
  unfold lt at q
  simp only at q
  generalize Rat.divInt (y.num * one.den) (y.den * one.num) = w at q hw
  simp only [asg, List.set, slV]
  refine ⟨w, rfl, hw.mono (by decide), ?_⟩
  simp only [rT, idxF, atI1, Option.some.injEq, exists_eq_left', cmp2, EqOk_int, true_and, teq_int, tru]
  by_cases c : w.den = 1
  · rw [if_pos (decide_eq_true (by omega))]
    simp only [bin2, b2F]
    rw [if_pos c] at q
    exact q
  · rw [if_neg (by simp only [decide_eq_true_eq]; omega)]
    simp only [bin2, b2F]
    rw [if_neg c] at q
    exact q
theorem w_leaves_for (ts : List T) (Q : T → Prop) (h : sp15 ts Q) : wFn GG false ⟨p_leaves_for.length, n_leaves_for.length, ir_leaves_for⟩ ts Q := by
  obtain ⟨x, m, y, rfl, hx, m1, m2, hy, q⟩ := h
  refine ⟨rfl, ?_⟩
  show wSs GG ir_leaves_for _ [.val (rT x), .val (.int m), .val (rT y), .no]
  simp only [ir_leaves_for, wSs, wS, TL.wE, wEs, slV, bin2]
  refine ⟨x, m - 1, by simp only [List.cons.injEq, T.int.injEq, and_true, true_and]; omega, hx, by omega, ?_⟩
  have hb := (bd_pow hx (m - 1)).mono (l := 1000) (by omega)
  simp only [asg, List.set, slV, rT, idxF, atI0, Option.some.injEq, exists_eq_left', tru]
  by_cases c : (x ^ (m - 1)).num = 0
  · rw [if_pos c] at q
    rw [if_neg (by simpa using c)]
    exact q
  · rw [if_neg c] at q
    rw [if_pos (by simpa using c)]
    exact ⟨y, x ^ (m - 1), rfl, hy, hb, fun z => c (by rw [z]; rfl), q⟩
theorem w_leaves_for_all (ts : List T) (Q : T → Prop) (h : sp16 ts Q) : wFn GG false ⟨p_leaves_for_all.length, n_leaves_for_all.length, ir_leaves_for_all⟩ ts Q := by
  obtain ⟨x, m, y, rfl, hx, hm, hy, h0, q⟩ := h
  refine ⟨rfl, ?_⟩
  show wSs GG ir_leaves_for_all _ [.val (rT x), .val (.int m), .val (rT y)]
  simp only [ir_leaves_for_all, wSs, wS, TL.wE, wEs, slV]
  refine ⟨1, x, m, rfl, by decide, hx, hm, ?_⟩
  exact ⟨y, whl 1 x m, rfl, hy, (bd_whl (by decide) hx m (by omega)).mono (by omega), h0, q⟩
theorem w_cups_as_strong (ts : List T) (Q : T → Prop) (h : sp17 ts Q) : wFn GG false ⟨p_cups_as_strong.length, n_cups_as_strong.length, ir_cups_as_strong⟩ ts Q := by
  obtain ⟨l, x, y, rfl, hl, hx, hy, ⟨N, hN, hs⟩, q⟩ := h
  refine ⟨rfl, ?_⟩
  show wSs GG ir_cups_as_strong _ [.val (.int l), .val (rT x), .val (rT y), .no, .no]
  simp only [ir_cups_as_strong, wSs, wS, TL.wE, wEs, slV, parSet, List.set]
  refine ⟨(show 2 ≤ 1000 by decide), fun k σ => ∃ n : Nat, σ = [.val (.int l), .val (rT x), .val (rT y), .val (.int n), .val (rT (st l x n))] ∧ n + k = N ∧ ∀ j < n, ¬ st l x j < y, ⟨N, 0, by rw [st_zero, rT_int]; rfl, by omega, fun j hj => by omega⟩, fun k σ hI => ?_⟩
  obtain ⟨n, rfl, hk, hj⟩ := hI
  simp only [tst, TL.wE, wEs, slV]
  refine ⟨st l x n, y, rfl, (bd_st hl hx n).mono (by omega), hy.mono (by decide), ?_⟩
  simp only [tru]
  by_cases c : st l x n < y
  · rw [decide_eq_true c]
    simp only [Bool.not_true, Bool.false_eq_true, if_false, slV]
    exact q n (by omega) hj c
  · rw [decide_eq_false c]
    simp only [Bool.not_false, if_true, wSs, wS, TL.wE, wEs, slV, bin2, parSet, List.set]
    have lt : n < N := by
      rcases Nat.lt_or_ge n N with z | z
      · exact z
      · have : n = N := by omega
        subst this
        exact absurd hs c
    refine ⟨st l x n, x, rfl, (bd_st hl hx n).mono (by omega), hx.mono (by omega), ?_⟩
    simp only [parSet, List.set]
    refine ⟨k - 1, by omega, n + 1, by rw [st_succ]; rfl, by omega, fun j h => ?_⟩
    rcases Nat.lt_or_ge j n with z | z
    · exact hj j z
    · have : j = n := by omega
      subst this
      exact c
theorem bd_fold : ∀ (xs : List Rat) (a : Rat) (k : Nat), (∀ x ∈ xs, RBd 200 x) → RBd k a → RBd (k + 201 * xs.length) (xs.foldl (· + ·) a)
  | [], a, k, _, h => h
  | x :: r, a, k, hx, h => by
    have := bd_fold r (a + x) (k + 200 + 1) (fun y hy => hx y (List.mem_cons_of_mem _ hy)) (RBd.add h (hx x List.mem_cons_self))
    exact this.mono (by simp only [List.length_cons]; omega)
theorem w_law_sum (ts : List T) (Q : T → Prop) (h : sp24 ts Q) : wFn GG false ⟨p_law_sum.length, n_law_sum.length, ir_law_sum⟩ ts Q := by
  obtain ⟨xs, rfl, hx, hl, q⟩ := h
  refine ⟨rfl, ?_⟩
  show wSs GG ir_law_sum _ [.val (.lst (xs.map rT)), .no, .no]
  simp only [ir_law_sum, wSs, wS, TL.wE, wEs, slV, asg, List.set, seqOf]
  refine ⟨(show 2 ≤ 1000 by decide), wFor_inv (fun i σ => ∃ s, σ = [.val (.lst (xs.map rT)), .val (rT ((xs.take i).foldl (· + ·) 0)), s]) _ (fun i y σ nx hy hI hn => ?_) (fun σ hI => ?_) _ ⟨_, by rw [List.take_zero, List.foldl_nil, rT_zero]⟩⟩
  · obtain ⟨s, rfl⟩ := hI
    rw [List.getElem?_map] at hy
    have hi : i < xs.length := by
      rcases Nat.lt_or_ge i xs.length with c | c
      · exact c
      · rw [List.getElem?_eq_none c] at hy; cases hy
    rw [List.getElem?_eq_getElem hi] at hy
    simp only [Option.map_some, Option.some.injEq] at hy
    subst hy
    simp only [asg, List.set, slV]
    have b := bd_fold (xs.take i) 0 1 (fun z hz => hx z (List.mem_of_mem_take hz)) ⟨by decide, by decide⟩
    have lt := List.length_take (i := i) (l := xs)
    refine ⟨(xs.take i).foldl (· + ·) 0, xs[i], rfl, b.mono (by omega), (hx _ (List.getElem_mem hi)).mono (by decide), hn _ ⟨.val (rT xs[i]), ?_⟩⟩
    rw [List.take_succ_eq_append_getElem hi, List.foldl_append]
    rfl
  · obtain ⟨s, rfl⟩ := hI
    rw [List.length_map, List.take_length]
    simpa only [slV] using q
theorem isiF_tup (xs : List T) : isiF .tup (.tup xs) = some true := rfl
theorem isi_wh {x : T} (hp : x.pl = true) : ∃ b, isiF .int x = some (isWh x || b) ∧ isiF .bool x = some b ∧ (isWh x && b) = false := by
  cases x
  all_goals first
    | (exfalso; simp [T.pl] at hp; done)
    | exact ⟨false, rfl, rfl, rfl⟩
    | exact ⟨true, rfl, rfl, rfl⟩
theorem w_law_is_ratio (ts : List T) (Q : T → Prop) (h : spIsR ts Q) : wFn GG false ⟨p_law_is_ratio.length, n_law_is_ratio.length, ir_law_is_ratio⟩ ts Q := by
  obtain ⟨t, rfl, hp, hb, q⟩ := h
  refine ⟨rfl, ?_⟩
  show wSs GG ir_law_is_ratio _ [.val t, .no]
  by_cases ht : ∃ xs, t = .tup xs
  case neg =>
    have h1 : isiF .tup t = some false := by
      cases t
      all_goals first
        | (exfalso; simp [T.pl] at hp; done)
        | rfl
        | (exact absurd ⟨_, rfl⟩ ht)
    have h2 : isRt t = false := by
      cases e : isRt t with
      | false => rfl
      | true => obtain ⟨p, d, rfl⟩ := isRt_pair e; exact absurd ⟨_, rfl⟩ ht
    simp only [ir_law_is_ratio, wSs, wS, tst, TL.wE, wEs, slV, h1, Option.some.injEq, exists_eq_left', tru, Bool.not_false, if_true]
    rw [h2] at q; exact q
  obtain ⟨xs, rfl⟩ := ht
  have hx : plAll xs = true := by simpa only [T.pl] using hp
  simp only [ir_law_is_ratio, wSs, wS, tst, TL.wE, wEs, slV, isiF_tup, Option.some.injEq, exists_eq_left', tru, Bool.not_true, Bool.false_eq_true, if_false, b1F, cmp2, EqOk_int, true_and, teq_int]
  by_cases hl : xs.length = 2
  case neg =>
    have e : decide ((xs.length : Int) = 2) = false := decide_eq_false (by omega)
    rw [e]
    simp only [Bool.not_false, if_true]
    have : isRt (.tup xs) = false := by
      cases e : isRt (.tup xs) with
      | false => rfl
      | true => obtain ⟨p, d, z⟩ := isRt_pair e; cases z; simp at hl
    rw [this] at q; exact q
  have e : decide ((xs.length : Int) = 2) = true := decide_eq_true (by omega)
  rw [e]
  simp only [Bool.not_true, Bool.false_eq_true, if_false, seqOf, wipeT, List.set]
  refine wFold_map (g := fun x => [.bl (isWh x)]) (fun x hxm acc k hk => ?_) ?_
  · obtain ⟨b, h1, h2, h3⟩ := isi_wh (plAll_mem hx hxm)
    simp only [asg, List.set, slV, if_true, h1, h2, Option.some.injEq, exists_eq_left', tru]
    cases e1 : isWh x <;> cases b <;> simp only [e1] at h3 hk ⊢ <;> first | (cases h3; done) | simpa using hk
  · have e2 : (xs.map fun x => [T.bl (isWh x)]).flatten = (xs.map isWh).map T.bl := by
      clear q hp hb hx hl e
      induction xs with
      | nil => rfl
      | cons x r ih => simp only [List.map_cons, List.flatten_cons, ih]; rfl
    rw [e2, List.nil_append]
    refine ⟨xs.map isWh, blsOf_map _, ?_⟩
    match xs, hl, hx, hp, hb, q with
    | [a, b], _, hx, hp, hb, q =>
      cases ea : isWh a with
      | false =>
        have : isRt (.tup [a, b]) = false := by
          cases e : isRt (.tup [a, b]) with
          | false => rfl
          | true => obtain ⟨p, d, z⟩ := isRt_pair e; cases z; cases ea
        simp only [List.map_cons, List.map_nil, ea, List.all_cons, id, Bool.false_and, Bool.not_false, if_true]
        rw [this] at q; exact q
      | true =>
        cases eb : isWh b with
        | false =>
          have : isRt (.tup [a, b]) = false := by
            cases e : isRt (.tup [a, b]) with
            | false => rfl
            | true => obtain ⟨p, d, z⟩ := isRt_pair e; cases z; cases eb
          simp only [List.map_cons, List.map_nil, ea, eb, List.all_cons, id, Bool.false_and, Bool.and_false, Bool.not_false, if_true]
          rw [this] at q; exact q
        | true =>
          simp only [List.map_cons, List.map_nil, ea, eb, List.all_cons, List.all_nil, id, Bool.and_true, Bool.not_true, Bool.false_eq_true, if_false, idxF, atI0, atI1, Option.some.injEq, exists_eq_left']
          obtain ⟨p, rfl⟩ := isWh_int ea
          obtain ⟨d, rfl⟩ := isWh_int eb
          refine ⟨d, 0, rfl, rfl, ?_⟩
          by_cases c : 0 < d
          · rw [if_pos (decide_eq_true c)]
            obtain ⟨b1, b2⟩ := hb p d rfl
            refine ⟨p, d, rfl, by omega, b1, b2, ?_⟩
            unfold rT
            refine ⟨EqOk_pair _ _ hp, ?_⟩
            rw [teq_pair]
            simpa only [isRt, decide_eq_true c, Bool.true_and] using q
          · rw [if_neg (by simpa using c)]
            simpa only [isRt, decide_eq_false c, Bool.false_and] using q
theorem w_law_run (ts : List T) (Q : T → Prop) (h : sp26 ts Q) : wFn GG false ⟨p_law_run.length, n_law_run.length, ir_law_run⟩ ts Q := by
  obtain ⟨l, x, m, rfl, hl, hx, hm, q⟩ := h
  refine ⟨rfl, ?_⟩
  show wSs GG ir_law_run _ [.val (.int l), .val (rT x), .val (.int m), .no, .no, .no]
  have sz : sizeLine = 16777216 := sizeLine_eq
  simp only [ir_law_run, wSs, wS, TL.wE, wEs, slV, parSet, List.set]
  refine ⟨(show 0 ≤ 1000 by decide), (show 2 ≤ 1000 by decide), 0, m, rfl, rfl, ⟨by decide, by decide, by omega, by omega⟩, by omega, ?_⟩
  have e : ((m : Int) - 0).toNat = m := by omega
  rw [e]
  simp only [seqOf]
  refine wFor_inv (fun i σ => ∃ s, σ = [.val (.int l), .val (rT x), .val (.int m), .own (.lst ((List.range i).map fun k => rT (st l x k))), .val (rT (st l x i)), s]) _ (fun i y σ nx hy hI hn => ?_) (fun σ hI => ?_) _ ⟨_, by rw [st_zero, rT_int]; rfl⟩
  · obtain ⟨s, rfl⟩ := hI
    obtain ⟨hi, rfl⟩ := rngL_get hy
    have b1 := bd_st hl hx i
    obtain ⟨m1, c1⟩ := bd_mul (b1.mono (l := 3000) (by omega)).1 (hx.mono (l := 3000) (by omega)).1
    obtain ⟨m2, c2⟩ := bd_mul (bd_den (b1.mono (l := 3000) (by omega))) (bd_den (hx.mono (l := 3000) (by omega)))
    have p := p8
    have em : Rat.divInt ((st l x i).num * x.num) ((st l x i).den * x.den) = st l x (i + 1) := by
      rw [st_succ, Rat.mul_def']
      have : (((st l x i).den : Int) * (x.den : Int)) = (((st l x i).den * x.den : Nat) : Int) := by simp
      rw [this, Rat.divInt_ofNat]
    simp only [asg, List.set, slO, slV]
    refine ⟨_, rfl, by simp only [List.length_map, List.length_range]; omega, ?_⟩
    simp only [rT, idxF, atI0, atI1, Option.some.injEq, exists_eq_left', bin2]
    refine ⟨m1, m2, _, _, rfl, den_ne _ _, by omega, by omega, hn _ ⟨.val (.int (0 + (i : Int))), ?_⟩⟩
    rw [em, List.range_succ, List.map_append]
    rfl
  · obtain ⟨s, rfl⟩ := hI
    rw [rngL_len]
    simp only [slO, List.set, slV]
    exact q
/-! ### mathematics -/
theorem geo (l : Int) (x : Rat) : ∀ m, whl l x m * (1 - x) = (l : Rat) * (1 - x ^ m)
  | 0 => by
    show (0 : Rat) * (1 - x) = (l : Rat) * (1 - x ^ 0)
    rw [Rat.pow_zero]
    grind
  | m + 1 => by
    have ih := geo l x m
    show (whl l x m + st l x m) * (1 - x) = (l : Rat) * (1 - x ^ (m + 1))
    rw [Rat.pow_succ]
    unfold st
    grind
theorem rat_nd (x : Rat) : x * (x.den : Rat) = (x.num : Rat) := by
  have h := Rat.num_divInt_den x
  rw [Rat.divInt_eq_div] at h
  have d0 : ((x.den : Int) : Rat) ≠ 0 := by
    have := x.den_pos
    intro z
    have := Rat.intCast_inj.mp (z.trans Rat.intCast_zero.symm)
    omega
  have := Rat.div_mul_cancel (a := (x.num : Rat)) d0
  rw [h] at this
  exact this
theorem divInt_of {a b : Int} {r : Rat} (hb : b ≠ 0) (h : r * (b : Rat) = (a : Rat)) : Rat.divInt a b = r := by
  rw [Rat.divInt_eq_div, ← h]
  refine Rat.mul_div_cancel fun z => hb ?_
  exact Rat.intCast_inj.mp (z.trans Rat.intCast_zero.symm)
theorem lt_facts {y one : Rat} (hy : 0 < y) (ho : 0 < one) : 1 ≤ lt y one ∧ ¬ one * (lt y one : Int) < y ∧ (1 < lt y one → one * ((lt y one - 1 : Int) : Rat) < y) := by
  have ow : one * Rat.divInt (y.num * one.den) (y.den * one.num) = y := by
    have e : Rat.divInt (y.num * one.den) (y.den * one.num) = y / one := by
      have n0 : (y.den : Int) * one.num ≠ 0 := Int.mul_ne_zero (by have := y.den_pos; omega) fun z => Rat.ne_of_gt ho (Rat.num_eq_zero.mp z)
      refine divInt_of n0 ?_
      have h1 := rat_nd y
      have h2 := rat_nd one
      have h3 : y / one * one = y := Rat.div_mul_cancel (Rat.ne_of_gt ho)
      rw [Rat.intCast_mul, Rat.intCast_mul, ← h1, ← h2]
      show y / one * ((y.den : Rat) * (one * (one.den : Rat))) = y * (y.den : Rat) * (one.den : Rat)
      grind
    rw [e, Rat.mul_comm]
    exact Rat.div_mul_cancel (Rat.ne_of_gt ho)
  unfold lt
  simp only
  generalize Rat.divInt (y.num * one.den) (y.den * one.num) = w at ow
  have hc : w.floor + (if w.den = 1 then 0 else 1) = w.ceil := by
    unfold Rat.floor Rat.ceil
    split <;> simp
  rw [hc]
  have c1 : w ≤ (w.ceil : Rat) := Rat.le_ceil
  have c2 : (w.ceil : Rat) < w + 1 := Rat.ceil_lt
  by_cases h : w.ceil > 1
  · rw [if_pos h]
    refine ⟨by omega, ?_, fun _ => ?_⟩
    · rw [Rat.not_lt]
      have := Rat.mul_le_mul_of_nonneg_left c1 (Rat.le_of_lt ho)
      rw [ow] at this
      exact this
    · have h2 : ((w.ceil - 1 : Int) : Rat) < w := by
        rw [Rat.intCast_sub, Rat.intCast_one]
        grind
      have := Rat.mul_lt_mul_of_pos_left h2 ho
      rw [ow] at this
      exact this
  · rw [if_neg h]
    refine ⟨Int.le_refl _, ?_, fun z => absurd z (by omega)⟩
    rw [Rat.not_lt]
    have h2 : (w.ceil : Rat) ≤ ((1 : Int) : Rat) := Rat.intCast_le_intCast.mpr (by omega)
    have := Rat.mul_le_mul_of_nonneg_left (Rat.le_trans c1 h2) (Rat.le_of_lt ho)
    rw [ow] at this
    exact this
theorem st_nonneg {l : Int} {x : Rat} (hl : 0 ≤ l) (hx : 0 ≤ x) (k : Nat) : 0 ≤ st l x k := Rat.mul_nonneg (Rat.intCast_nonneg.mpr hl) (Rat.pow_nonneg hx)
theorem whl_pos {x : Rat} (hx : 0 ≤ x) : ∀ m, 1 ≤ m → 0 < whl 1 x m
  | 1, _ => by
    show 0 < (0 : Rat) + st 1 x 0
    rw [st_zero]
    decide +kernel
  | m + 2, _ => by
    have h1 := whl_pos hx (m + 1) (by omega)
    have h2 := st_nonneg (l := 1) (by decide) hx (m + 1)
    show 0 < whl 1 x (m + 1) + st 1 x (m + 1)
    grind
theorem fold_whl (l : Int) (x : Rat) (m : Nat) : ((List.range m).map fun k => st l x k).foldl (· + ·) 0 = whl l x m := by
  induction m with
  | zero => rfl
  | succ m ih =>
    rw [List.range_succ, List.map_append, List.foldl_append, ih]
    rfl
def chkKeep (x : Rat) : Bool := decide (x.num.natAbs < 2 ^ 4) && decide (x.den < 2 ^ 4) && decide (0 ≤ x) && decide (x < 1) && decide (x.num < x.den) && isKp (rT x) && decide (st 100 x 60 < Rat.divInt 1 6)
theorem keep_all : ((List.range 9).all fun q => (List.range (q + 1)).all fun d => chkKeep (Rat.divInt (d : Int) (1 + (q : Int)))) = true := by decide +kernel
def chkNeed (y : Rat) : Bool := decide (y.num.natAbs < 2 ^ 7) && decide (y.den < 2 ^ 7) && decide (Rat.divInt 1 6 ≤ y)
theorem need_all : ((List.range 60).all fun a => (List.range 6).all fun b => chkNeed (Rat.divInt (1 + (a : Int)) (1 + (b : Int)))) = true := by decide +kernel
/-! ### the law -/
theorem wFold_inv {f : T → List T → (List T → Prop) → Prop} {Q : List T → Prop} (I : List T → Prop) {xs acc : List T} (h : ∀ x ∈ xs, ∀ acc k, I acc → (∀ acc', I acc' → k acc') → f x acc k) (h0 : I acc) (q : ∀ acc, I acc → Q acc) : wFold f xs acc Q := by
  induction xs generalizing acc with
  | nil => exact q acc h0
  | cons x r ih => exact h x List.mem_cons_self acc _ h0 fun acc' h' => ih (fun y hy => h y (List.mem_cons_of_mem _ hy)) h'
mutual
theorem same_refl : ∀ {t : T}, t.pl = true → TL.same t t = true
  | .non, _ => rfl
  | .bl b, _ => by rw [TL.same]; exact decide_eq_true rfl
  | .int i, _ => by rw [TL.same]; exact decide_eq_true rfl
  | .str x, _ => by rw [TL.same]; exact decide_eq_true rfl
  | .tup xs, h => by rw [TL.same]; rw [T.pl] at h; exact sameL_refl h
  | .lst xs, h => by rw [TL.same]; rw [T.pl] at h; exact sameL_refl h
  | .dic _ _, h => by cases h
  | .st _, h => by cases h
  | .tape, h => by cases h
theorem sameL_refl : ∀ {ts : List T}, plAll ts = true → sameL ts ts = true
  | [], _ => rfl
  | t :: ts, h => by
    rw [plAll, Bool.and_eq_true] at h
    rw [sameL, same_refl h.1, sameL_refl h.2]; rfl
end
theorem sp_same_refl {d : Nat} {t : T} {Q : T → Prop} (hp : t.pl = true) (hd : t.dep < d) (hw : t.wid ≤ 16777216) (q : Q (.bl true)) : spSame d [t, t] Q :=
  ⟨t, t, rfl, hp, hp, hd, by rw [sizeLine_eq]; exact hw, by rw [same_refl hp]; exact q⟩
theorem rT_pl (x : Rat) : (rT x).pl = true := rfl
theorem rT_dep (x : Rat) : (rT x).dep = 1 := rfl
theorem rT_wid (x : Rat) : (rT x).wid = 2 := rfl
theorem cutT_rng (f : Nat → T) (n m : Nat) (h : m ≤ n) : cutT ((List.range n).map f) none (some (m : Int)) = (List.range m).map f := by
  unfold cutT
  have e1 : HT.sIx ((List.range n).map f).length 0 none = 0 := rfl
  have e2 : HT.sIx ((List.range n).map f).length ((List.range n).map f).length (some (m : Int)) = m := by
    show (if (m : Int) < 0 then ((m : Int) + (((List.range n).map f).length : Int)).toNat else min (m : Int).toNat ((List.range n).map f).length) = m
    rw [if_neg (by omega), List.length_map, List.length_range]
    omega
  rw [e1, e2, List.drop_zero, Nat.sub_zero, ← List.map_take, List.take_range]
  congr 2
  omega
theorem at_rng (f : Nat → T) (n m : Nat) (h : m < n) : atI ((List.range n).map f) (m : Int) = some (f m) := by
  rw [TL.atI_nat (by simpa using h)]
  simp [List.getD_eq_getElem?_getD, h]
theorem keep_of {d q : Int} (h0 : 0 ≤ d) (h1 : d < q) (h2 : 1 ≤ q) (h3 : q ≤ 9) : chkKeep (Rat.divInt d q) = true := by
  have h := List.all_eq_true.mp keep_all (q - 1).toNat (by simp; omega)
  have h' := List.all_eq_true.mp h d.toNat (by simp; omega)
  have e1 : ((d.toNat : Nat) : Int) = d := by omega
  have e2 : 1 + (((q - 1).toNat : Nat) : Int) = q := by omega
  rwa [e1, e2] at h'
theorem need_of {a b : Int} (h0 : 0 ≤ a) (h1 : a < 60) (h2 : 0 ≤ b) (h3 : b < 6) : chkNeed (Rat.divInt (1 + a) (1 + b)) = true := by
  have h := List.all_eq_true.mp need_all a.toNat (by simp; omega)
  have h' := List.all_eq_true.mp h b.toNat (by simp; omega)
  have e1 : ((a.toNat : Nat) : Int) = a := by omega
  have e2 : ((b.toNat : Nat) : Int) = b := by omega
  rwa [e1, e2] at h'
theorem small_lt {n k : Nat} (h : n < 2 ^ 20) (hk : 20 ≤ k) : n < 2 ^ k := Nat.lt_of_lt_of_le h (Nat.pow_le_pow_right (by decide) hk)
/-- what is known of the keep -/
structure KeepOk (x : Rat) : Prop where
  bd : RBd 4 x
  nn : 0 ≤ x
  l1 : x < 1
  nd : x.num < x.den
  kp : isKp (rT x) = true
  far : ∀ l : Int, 0 ≤ l → l ≤ 100 → st l x 60 < Rat.divInt 1 6
theorem keepOk {x : Rat} (h : chkKeep x = true) : KeepOk x := by
  unfold chkKeep at h
  simp only [Bool.and_eq_true, decide_eq_true_eq] at h
  obtain ⟨⟨⟨⟨⟨⟨h1, h2⟩, h3⟩, h4⟩, h5⟩, h6⟩, h7⟩ := h
  refine ⟨⟨h1, h2⟩, h3, h4, h5, h6, fun l l0 l1 => ?_⟩
  have p0 : 0 ≤ x ^ 60 := Rat.pow_nonneg h3
  have hl : ((l : Int) : Rat) ≤ ((100 : Int) : Rat) := Rat.intCast_le_intCast.mpr l1
  have := Rat.mul_le_mul_of_nonneg_right hl p0
  unfold st at h7 ⊢
  grind
theorem lt_bd {y one : Rat} (hy : RBd 700 y) (ho : RBd 700 one) (h0 : one ≠ 0) : (lt y one).natAbs < 2 ^ 1402 := by
  have n0 : (y.den : Int) * one.num ≠ 0 := Int.mul_ne_zero (by have := y.den_pos; omega) fun z => h0 (Rat.num_eq_zero.mp z)
  have hw : RBd 1400 (Rat.divInt (y.num * one.den) (y.den * one.num)) := by
    refine divInt_bd n0 ?_ ?_
    · rw [Int.natAbs_mul, show (2 : Nat) ^ 1400 = 2 ^ 700 * 2 ^ 700 by rw [← Nat.pow_add]]
      exact Nat.mul_lt_mul'' hy.1 (by simpa using ho.2)
    · rw [Int.natAbs_mul, show (2 : Nat) ^ 1400 = 2 ^ 700 * 2 ^ 700 by rw [← Nat.pow_add]]
      exact Nat.mul_lt_mul'' (by simpa using hy.2) ho.1
  unfold lt
  simp only
  generalize Rat.divInt (y.num * one.den) (y.den * one.num) = w at hw
  have hf : w.floor.natAbs ≤ w.num.natAbs := by
    rw [Rat.floor_def]
    exact Int.natAbs_ediv_le_natAbs _ _
  have h1 := hw.1
  have e : (2 : Nat) ^ 1402 = 2 ^ 1400 * 4 := by rw [show (4 : Nat) = 2 ^ 2 by decide, ← Nat.pow_add]
  rw [e]
  generalize (2 : Nat) ^ 1400 = B at h1
  split <;> split <;> omega
/-- the pair that is told: how many leaves, one's strength -/
theorem pair_ok {σ : TL.TS} {D : En} {y one : Rat}
    (h12 : ∀ Q, slV σ 12 Q = Q (rT y)) (h15 : ∀ Q, slV σ 15 Q = Q (if one.num = 0 then .non else .int (lt y one))) (h16 : ∀ Q, slV σ 16 Q = Q (rT one)) (hy : RBd 700 y) (hy0 : 0 < y) (ho : RBd 700 one) (hn : 0 ≤ one) (q : D.nx σ) : wSs GG [
        .ite (.cmp .ne (.cmp .is_ (.var 15) .non) (.cmp .eq (.idx (.var 16) (.int 0)) (.int 0))) [
          .ret (.bl false)] [],
        .ite (.cmp .isn (.var 15) .non) [
          .ite (.or (.not (.isi .int (.var 15))) (.or (.isi .bool (.var 15)) (.or (.cmp .lt (.var 15) (.int 1)) (.call 23 [(.call 21 [(.bin .mul (.idx (.var 16) (.int 0)) (.var 15)), (.idx (.var 16) (.int 1))]), (.var 12)])))) [
            .ret (.bl false)] [],
          .ite (.or (.and (.cmp .gt (.var 15) (.int 1)) (.not (.call 23 [(.call 21 [(.bin .mul (.idx (.var 16) (.int 0)) (.bin .sub (.var 15) (.int 1))), (.idx (.var 16) (.int 1))]), (.var 12)]))) (.not (.call 19 [(.call 14 [(.var 12), (.var 16)]), (.var 15)]))) [
            .ret (.bl false)] []] []] D σ := by
  by_cases c : one.num = 0
  · simp only [if_pos c] at h15
    simp only [wSs, wS, tst, TL.wE, wEs, h15, h16, rT, idxF, atI0, Option.some.injEq, exists_eq_left', cmp2, isT, EqOk_int, EqOk_bl, true_and, teq_int, teq_bl, tru]
    rw [decide_eq_true c]
    simp only [decide_true, Bool.not_true, Bool.false_eq_true, if_false]
    exact q
  · simp only [if_neg c] at h15
    have op : 0 < one := Rat.lt_of_le_of_ne hn fun z => c (by rw [← z]; rfl)
    obtain ⟨l1, l2, l3⟩ := lt_facts hy0 op
    have lb := lt_bd hy ho (Rat.ne_of_gt op)
    have ho' := ho.mono (l := 3000) (by decide)
    have hd0 := one.den_pos
    have p := p8
    have pw : (2 : Nat) ^ 1402 + 1 ≤ 2 ^ 1500 := by
      have h1 : (2 : Nat) ^ 1402 < 2 ^ 1500 := Nat.pow_lt_pow_right (by decide) (by decide)
      exact h1
    have p15 : (2 : Nat) ^ 1500 ≤ 2 ^ 3000 := Nat.pow_le_pow_right (by decide) (by decide)
    obtain ⟨z, hz⟩ : ∃ z, lt y one = z := ⟨_, rfl⟩
    rw [hz] at l1 l2 l3 lb
    simp only [hz] at h15
    have r : ∀ k : Int, k.natAbs < 2 ^ 1500 → MulOk one.num k ∧ (one.num * k).natAbs < 2 ^ 8000 ∧ ((one.den : Int)).natAbs < 2 ^ 8000 ∧ Rat.divInt (one.num * k) one.den = one * (k : Rat) ∧ RBd 3000 (one * (k : Rat)) := fun k hk => by
      obtain ⟨m1, m2⟩ := bd_mul ho'.1 (Nat.lt_of_lt_of_le hk p15)
      have hd := bd_den ho'
      refine ⟨m1, by omega, Nat.lt_of_lt_of_le hd (Nat.pow_le_pow_right (by decide) (by decide)), divInt_of (by omega) ?_, (RBd.mul ho (RBd.int hk (by decide))).mono (by decide)⟩
      have := rat_nd one
      rw [Rat.intCast_mul, ← this]
      show one * (k : Rat) * (one.den : Rat) = one * (one.den : Rat) * (k : Rat)
      grind
    obtain ⟨r1, r2, r3, r4, r5⟩ := r z (by omega)
    obtain ⟨t1, t2, t3, t4, t5⟩ := r (z - 1) (by omega)
    simp only [wSs, wS, tst, TL.wE, wEs, h12, h15, h16, rT, idxF, atI0, atI1, Option.some.injEq, exists_eq_left', cmp2, isT, EqOk_int, EqOk_bl, true_and, teq_int, teq_bl, tru, isiF, ltF, bin2]
    rw [decide_eq_false c]
    simp only [decide_true, Bool.not_true, Bool.not_false, Bool.false_eq_true, if_false, if_true]
    rw [decide_eq_false (show ¬ z < 1 by omega)]
    simp only [Bool.false_eq_true, if_false]
    refine ⟨r1, _, _, rfl, by omega, r2, r3, ?_⟩
    rw [r4]
    refine ⟨_, y, rfl, r5, hy.mono (by decide), ?_⟩
    simp only [tru]
    rw [decide_eq_false l2]
    simp only [Bool.false_eq_true, if_false]
    refine ⟨z, 1, rfl, rfl, ?_⟩
    by_cases c2 : 1 < z
    · rw [if_pos (decide_eq_true c2)]
      refine ⟨t1, _, _, rfl, by omega, t2, t3, ?_⟩
      rw [t4]
      refine ⟨_, y, rfl, t5, hy.mono (by decide), ?_⟩
      simp only [tru]
      rw [decide_eq_true (l3 c2)]
      simp only [Bool.not_true, Bool.false_eq_true, if_false]
      refine ⟨y, one, rfl, hy.mono (by decide), ho.mono (by decide), Rat.ne_of_gt op, ?_⟩
      rw [hz, show GG.fn 19 = spSame 4 from rfl]
      refine sp_same_refl rfl (show 0 < 4 by decide) (Nat.zero_le _) ?_
      simpa only [tru, Bool.not_true, Bool.false_eq_true, if_false] using q
    · rw [if_neg (by simpa using c2), if_neg (by simpa using c2)]
      refine ⟨y, one, rfl, hy.mono (by decide), ho.mono (by decide), Rat.ne_of_gt op, ?_⟩
      rw [hz, show GG.fn 19 = spSame 4 from rfl]
      refine sp_same_refl rfl (show 0 < 4 by decide) (Nat.zero_le _) ?_
      simpa only [tru, Bool.not_true, Bool.false_eq_true, if_false] using q
theorem at_rng_last (f : Nat → T) (m : Nat) (h : 1 ≤ m) : atI ((List.range m).map f) (-1) = some (f (m - 1)) := by
  unfold atI ixN
  rw [if_neg (by decide), if_pos (by rw [List.length_map, List.length_range]; omega)]
  have e : ((-1 : Int) + (((List.range m).map f).length : Nat)).toNat = m - 1 := by rw [List.length_map, List.length_range]; omega
  simp only [Option.bind_some]
  rw [e, List.getElem?_map, List.getElem?_range (by omega)]
  rfl
/-- a value that can be asked -/
def Askd (t : T) : Prop := t.pl = true ∧ ∀ p q, t = .tup [.int p, .int q] → p.natAbs < 2 ^ 8000 ∧ q.natAbs < 2 ^ 8000
theorem askd_ok3 {d w m : Nat} {t : T} (h : Ok3 d w m t) (hm : m < 2 ^ 1000) : Askd t := by
  refine ⟨h.1, fun p q e => ?_⟩
  subst e
  have h4 := h.2.2.2
  simp only [T.mag, magAll] at h4
  have l : (2 : Nat) ^ 1000 ≤ 2 ^ 8000 := Nat.pow_le_pow_right (by decide) (by decide)
  omega
theorem askd_rT {k : Nat} {x : Rat} (h : RBd k x) (hk : k ≤ 8000) : Askd (rT x) := by
  refine ⟨rfl, fun p q e => ?_⟩
  cases e
  have h' := h.mono hk
  exact ⟨h'.1, by simpa using h'.2⟩
def lbIn : List TL.S := [.asg (.nm 20) (.call 25 [(.var 19)]),
        .ite (.not (.call 19 [(.call 8 [(.var 19)]), (.ite (.var 20) (.chain .le .lt (.int 0) (.idx (.var 19) (.int 0)) (.idx (.var 19) (.int 1))) (.bl false))])) [
          .ret (.bl false)] []]
theorem turn3 {x y : Rat} {s2 s3 s5 s6 s7 s8 s9 s10 s11 s13 s14 s15 s16 s17 s18 s19 s20 : Sl} {D : En} (KO : KeepOk x) (hy : RBd 7 y)
    (hD : ∀ s2 s3 s4 s5 s6 s7 s8 s9 s10 s11 s12 s13 s14 s15 s16 s17 s18 s19 s20, D.nx [.no, .val .tape, s2, s3, s4, s5, s6, s7, s8, s9, s10, s11, s12, s13, s14, s15, s16, s17, s18, s19, s20]) :
    wSs GG [lb14] D [.no, .val .tape, s2, s3, .val (rT x), s5, s6, s7, s8, s9, s10, s11, .val (rT y), s13, s14, s15, s16, s17, s18, s19, s20] := by
  have sz : sizeLine = 16777216 := sizeLine_eq
  have hm : (rT x).mag < 2 ^ 999 := by
    have h1 := KO.bd.1
    have h2 := KO.bd.2
    have : (rT x).mag ≤ 2 ^ 4 := by
      unfold rT
      simp only [T.mag, magAll]
      omega
    exact Nat.lt_of_le_of_lt this (Nat.pow_lt_pow_right (by decide) (by decide))
  have bent : ∀ (Q : T → Prop), (∀ v, Askd v → Q v) → GG.fn 20 [.tape, rT x] Q := fun Q h => by
    rw [show GG.fn 20 = spBent 3 from rfl]
    refine ⟨rT x, rfl, rfl, (show 1 < 3 by decide), (show 2 ≤ 1000 by decide), Nat.lt_of_lt_of_le hm (Nat.pow_le_pow_right (by decide) (by decide)), fun v hv => h v (askd_ok3 hv ?_)⟩
    have e : (2 : Nat) ^ 1000 = 2 ^ 999 * 2 := Nat.pow_succ 2 999
    have l : (1001 : Nat) < 2 ^ 999 := Nat.lt_of_lt_of_le (show 1001 < 2 ^ 10 by decide) (Nat.pow_le_pow_right (by decide) (by decide))
    rw [e]
    generalize (2 : Nat) ^ 999 = B at hm l
    omega
  have body : ∀ (xs : List T), (∀ t ∈ xs, Askd t) → ∀ (s18 s19 s20 : Sl), wFor (fun D' σ' => wSs GG lbIn D' σ') (.nm 19) { D with nx := fun σ' => D.nx σ' } xs [.no, .val .tape, s2, s3, .val (rT x), s5, s6, s7, s8, s9, s10, s11, .val (rT y), s13, s14, s15, s16, s17, s18, s19, s20] := fun xs hxs => by
    induction xs with
    | nil => exact fun s18 s19 s20 => hD _ _ _ _ _ _ _ _ _ _ _ _ _ _ _ _ _ _ _
    | cons v r ih =>
      intro s18 s19 s20
      obtain ⟨vp, vb⟩ := hxs v List.mem_cons_self
      have ih' := ih fun t ht => hxs t (List.mem_cons_of_mem _ ht)
      simp only [wFor, asg, List.set]
      show wSs GG [.asg (.nm 20) (.call 25 [(.var 19)]),
        .ite (.not (.call 19 [(.call 8 [(.var 19)]), (.ite (.var 20) (.chain .le .lt (.int 0) (.idx (.var 19) (.int 0)) (.idx (.var 19) (.int 1))) (.bl false))])) [
          .ret (.bl false)] []] _ _
      simp only [asg, List.set, wSs, wS, tst, TL.wE, wEs, slV]
      refine ⟨v, rfl, vp, vb, v, rfl, vp, vb, ?_⟩
      simp only [tru]
      rw [show GG.fn 19 = spSame 4 from rfl]
      cases e : isRt v with
      | false =>
        have hk : isKp v = false := by unfold isKp; rw [e]; rfl
        simp only [Bool.false_eq_true, if_false]
        rw [hk]
        refine sp_same_refl rfl (show 0 < 4 by decide) (Nat.zero_le _) ?_
        simp only [tru, Bool.not_true, Bool.false_eq_true, if_false]
        exact ih' _ _ _
      | true =>
        simp only [if_true]
        obtain ⟨p, q, rfl⟩ := isRt_pair e
        simp only [idxF, atI0, atI1, Option.some.injEq, exists_eq_left', cmp2, leF, ltF]
        have hk : isKp (.tup [.int p, .int q]) = (decide (0 ≤ p) && decide (p < q)) := by unfold isKp; rw [e]; rfl
        refine ⟨_, rfl, ?_⟩
        rw [hk]
        by_cases c : 0 ≤ p
        · rw [if_pos (decide_eq_true c), decide_eq_true c, Bool.true_and]
          refine sp_same_refl rfl (show 0 < 4 by decide) (Nat.zero_le _) ?_
          simp only [tru, Bool.not_true, Bool.false_eq_true, if_false]
          exact ih' _ _ _
        · rw [if_neg (by simpa using c), decide_eq_false c, Bool.false_and]
          refine sp_same_refl rfl (show 0 < 4 by decide) (Nat.zero_le _) ?_
          simp only [tru, Bool.not_true, Bool.false_eq_true, if_false]
          exact ih' _ _ _
  have e14 : lb14 = .for_ (.nm 19) (.bin .add (.lst [(.var 4), (.var 12), (.tup [(.int 0), (.int 1)]), (.tup [(.int 1), (.int 1)]), (.tup [(.int 3), (.int 2)]), (.tup [(.int 2), (.int 4)]), (.tup [(.neg (.int 1)), (.int 2)]), (.tup [(.bl true), (.int 2)]), (.tup [(.int 1)]), .non, (.tup []), (.int 0)]) (.comp (.call 20 [(.var 1), (.var 4)]) (.nm 18) (.rng (.int 0) (.int 4)) (.bl true) [18])) lbIn := rfl
  rw [wSs, e14, wS]
  simp only [TL.wE, wEs, slV, T.int.injEq, exists_eq_left']
  refine ⟨(show 2 ≤ 1000 by decide), (show 2 ≤ 1000 by decide), (show 2 ≤ 1000 by decide), (show 2 ≤ 1000 by decide), (show 2 ≤ 1000 by decide), (show 2 ≤ 1000 by decide), (show 1 ≤ 1000 by decide), (show 0 ≤ 1000 by decide), (show 12 ≤ 1000 by decide), 0, 4, rfl, rfl, ⟨by decide, by decide, by decide, by decide⟩, by omega, ?_⟩
  have e4 : rngL 0 ((4 : Int) - 0).toNat = [.int 0, .int 1, .int 2, .int 3] := rfl
  rw [e4]
  simp only [seqOf, wFold, wipeT, asg, List.set, slV, tru, if_true]
  refine bent _ fun v1 h1 => ?_
  refine bent _ fun v2 h2 => ?_
  refine bent _ fun v3 h3 => ?_
  refine bent _ fun v4 h4 => ?_
  simp only [bin2, seqOf]
  refine ⟨by simp only [List.length_append, List.length_cons, List.length_nil]; omega, ?_⟩
  simp only [wSs]
  refine body _ (fun t ht => ?_) _ _ _
  have ap : ∀ p q : Int, p.natAbs < 10 → q.natAbs < 10 → Askd (.tup [.int p, .int q]) := fun p q hp hq => ⟨rfl, fun p' q' e => by cases e; exact ⟨small_lt (by omega) (by decide), small_lt (by omega) (by decide)⟩⟩
  have a0 : ∀ t : T, t.pl = true → (∀ p q, t ≠ .tup [.int p, .int q]) → Askd t := fun t h1 h2 => ⟨h1, fun p q e => absurd e (h2 p q)⟩
  simp only [List.cons_append, List.nil_append, List.mem_cons, List.not_mem_nil, or_false] at ht
  rcases ht with rfl | rfl | rfl | rfl | rfl | rfl | rfl | rfl | rfl | rfl | rfl | rfl | rfl | rfl | rfl | rfl
  · exact askd_rT KO.bd (by decide)
  · exact askd_rT hy (by decide)
  · exact ap _ _ (by decide) (by decide)
  · exact ap _ _ (by decide) (by decide)
  · exact ap _ _ (by decide) (by decide)
  · exact ap _ _ (by decide) (by decide)
  · exact ap _ _ (by decide) (by decide)
  · exact a0 _ rfl (fun p q e => by cases e)
  · exact a0 _ rfl (fun p q e => by cases e)
  · exact a0 _ rfl (fun p q e => by cases e)
  · exact a0 _ rfl (fun p q e => by cases e)
  · exact a0 _ rfl (fun p q e => by cases e)
  · exact h1
  · exact h2
  · exact h3
  · exact h4
theorem turn2 {x : Rat} {l : Int} {m : Nat} {s2 s3 s8 s9 s10 s11 s12 s13 s14 s15 s16 s17 s18 s19 s20 : Sl} {D : En} (KO : KeepOk x) (hl1 : l.natAbs < 2 ^ 7) (hl0 : 0 ≤ l) (hl2 : l ≤ 100) (m1 : 1 ≤ m) (m9 : m ≤ 9)
    (hD : ∀ s2 s3 s4 s5 s6 s7 s8 s9 s10 s11 s12 s13 s14 s15 s16 s17 s18 s19 s20, D.nx [.no, .val .tape, s2, s3, s4, s5, s6, s7, s8, s9, s10, s11, s12, s13, s14, s15, s16, s17, s18, s19, s20]) :
    wSs GG [lb9, lb10, lb11, lb12, lb13, lb14] D [.no, .val .tape, s2, s3, .val (rT x), .val (.int l), .val (.int m), .val (.lst ((List.range 31).map fun k => rT (st l x k))), s8, s9, s10, s11, s12, s13, s14, s15, s16, s17, s18, s19, s20] := by
  have sz : sizeLine = 16777216 := sizeLine_eq
  rw [wSs, lb9, wS]
  simp only [TL.wE, wEs, slV]
  refine draw_read rfl (by decide) (small_lt (by decide) (by decide)) fun a a0 a1 => ?_
  simp only [bin2]
  refine draw_read rfl (by decide) (small_lt (by decide) (by decide)) fun b b0 b1 => ?_
  simp only [bin2]
  have NO := need_of a0 a1 b0 b1
  refine ⟨1 + a, 1 + b, rfl, by omega, small_lt (by omega) (by decide), small_lt (by omega) (by decide), ?_⟩
  generalize Rat.divInt (1 + a) (1 + b) = y at NO
  unfold chkNeed at NO
  simp only [Bool.and_eq_true, decide_eq_true_eq] at NO
  obtain ⟨⟨n1, n2⟩, n3⟩ := NO
  have by7 : RBd 7 y := ⟨n1, n2⟩
  have y0 : 0 < y := by
    have : (0 : Rat) < Rat.divInt 1 6 := by decide +kernel
    grind
  simp only [asg, List.set]
  rw [wSs, lb10, wS]
  simp only [TL.wE, wEs, slV]
  refine ⟨1, x, m, rfl, by decide, KO.bd, by omega, ?_⟩
  simp only [T.int.injEq, exists_eq_left', idxF]
  refine ⟨_, at_rng_last _ m m1, 1, x, m, rfl, by decide, KO.bd, by omega, ?_⟩
  refine ⟨(List.range m).map fun k => st 1 x k, by rw [List.map_map]; rfl, fun z hz => ?_, by simp only [List.length_map, List.length_range]; omega, ?_⟩
  · obtain ⟨k, hk, rfl⟩ := List.mem_map.mp hz
    have := List.mem_range.mp hk
    exact (bd_st (by decide) KO.bd k).mono (by omega)
  rw [fold_whl, pow1]
  simp only [parSet, List.set]
  have wp := whl_pos KO.nn m m1
  have bw := bd_whl (l := 1) (by decide) KO.bd m (by omega)
  have bp := bd_pow KO.bd (m - 1)
  have pn : 0 ≤ x ^ (m - 1) := Rat.pow_nonneg KO.nn
  rw [wSs, lb11, wS]
  simp only [TL.wE, wEs, slV]
  refine ⟨x, m, y, rfl, KO.bd, m1, by omega, by7.mono (by decide), (show 2 ≤ 1000 by decide), x, m, y, rfl, KO.bd, by omega, by7.mono (by decide), Rat.ne_of_gt wp, (show 2 ≤ 1000 by decide), (show 2 ≤ 1000 by decide), ?_⟩
  simp only [seqOf, wFor, asg, asgs, List.set]
  refine pair_ok (y := y) (one := x ^ (m - 1)) (fun Q => by simp only [slV]) (fun Q => by simp only [slV]) (fun Q => by simp only [slV]) (by7.mono (by decide)) y0 (bp.mono (by omega)) pn ?_
  simp only [List.set]
  refine pair_ok (y := y) (one := whl 1 x m) (fun Q => by simp only [slV]) (fun Q => ?_) (fun Q => by simp only [slV]) (by7.mono (by decide)) y0 (bw.mono (by omega)) (Rat.le_of_lt wp) ?_
  · simp only [slV]
    rw [if_neg fun z => Rat.ne_of_gt wp (Rat.num_eq_zero.mp z)]
  dsimp only
  rw [wSs, lb12, wS]
  simp only [TL.wE, wEs, slV]
  refine ⟨0, 31, rfl, rfl, by decide, by omega, ?_⟩
  simp only [seqOf, wipeT, List.set]
  have e31 : ((31 : Int) - 0).toNat = 31 := rfl
  rw [e31]
  refine wFold_map (g := fun z => match z with | .int i => if st l x i.toNat < y then [.int i] else [] | _ => []) (fun z hz acc k hk => ?_) ?_
  · obtain ⟨i, hi, rfl⟩ := rngL_mem hz
    have e0 : ((0 : Int) + (i : Int)) = (i : Int) := by omega
    rw [e0] at hk ⊢
    simp only [asg, List.set, slV, idxF]
    refine ⟨_, at_rng _ 31 i hi, st l x i, y, rfl, (bd_st hl1 KO.bd i).mono (by omega), by7.mono (by decide), ?_⟩
    simp only [tru]
    have e1 : ((i : Int)).toNat = i := by omega
    simp only [e1] at hk
    by_cases c : st l x i < y
    · rw [if_pos (decide_eq_true c)]
      rw [if_pos c] at hk
      exact hk
    · rw [if_neg (by simpa using c)]
      rw [if_neg c, List.append_nil] at hk
      exact hk
  have ew : ((rngL 0 31).map (fun z => match z with | .int i => if st l x i.toNat < y then [T.int i] else [] | _ => [])).flatten = (((List.range 31).filter fun k => decide (st l x k < y)).map fun k : Nat => (k : Int)).map T.int := by
    unfold rngL
    generalize List.range 31 = r
    induction r with
    | nil => rfl
    | cons k r ih =>
      have e0 : ((0 : Int) + (k : Int)) = (k : Int) := by omega
      have e1 : ((k : Int)).toNat = k := by omega
      simp only [List.map_cons, List.flatten_cons, ih, e0, e1, List.filter_cons]
      by_cases c : st l x k < y
      · simp [c]
      · simp [c]
  rw [ew, List.nil_append]
  simp only [asg, List.set]
  have farY : ∃ N ≤ 60, st l x N < y := ⟨60, Nat.le_refl _, by have := KO.far l hl0 hl2; grind⟩
  rw [wSs, lb13, wS]
  simp only [tst, TL.wE, wEs, slV, cmp2]
  generalize hws : ((List.range 31).filter fun k => decide (st l x k < y)).map (fun k : Nat => (k : Int)) = ws
  have rest : wSs GG [lb14] D [.no, .val .tape, s2, s3, .val (rT x), .val (.int l), .val (.int m), .val (.lst ((List.range 31).map fun k => rT (st l x k))), s8, s9, s10, s11, .val (rT y), .val (rT (x ^ (m - 1))), .val (rT (whl 1 x m)), .val (if (whl 1 x m).num = 0 then .non else .int (lt y (whl 1 x m))), .val (rT (whl 1 x m)), .val (.lst (ws.map T.int)), s18, s19, s20] := turn3 KO by7 hD
  have pl0 : EqOk (.lst (ws.map T.int)) (.lst []) := ⟨by rw [T.pl]; exact plAll_of fun t ht => by obtain ⟨k, _, rfl⟩ := List.mem_map.mp ht; rfl, rfl, Nat.le_trans (Nat.min_le_right _ _) (show 1 ≤ 60 by decide)⟩
  have tq : teq (.lst (ws.map T.int)) (.lst []) = ws.isEmpty := by cases ws <;> rfl
  have nz : ¬ (whl 1 x m).num = 0 := fun z => Rat.ne_of_gt wp (Rat.num_eq_zero.mp z)
  rw [if_neg nz] at rest
  refine ⟨(show 0 ≤ 1000 by decide), pl0, ?_⟩
  rw [tq]
  simp only [tru]
  cases hw : ws with
  | nil =>
    subst hw
    simp only [List.isEmpty_nil, Bool.not_true, Bool.false_eq_true, if_false]
    refine ⟨(show 0 ≤ 1000 by decide), ⟨rfl, rfl, by decide⟩, ?_⟩
    simp only [if_true]
    refine ⟨l, x, y, rfl, hl1, KO.bd, by7.mono (by decide), farY, fun n n60 nb nl => ?_⟩
    have n31 : 31 ≤ n := by
      rcases Nat.lt_or_ge n 31 with z | z
      · have : (n : Int) ∈ (((List.range 31).filter fun k => decide (st l x k < y)).map (fun k : Nat => (k : Int))) := List.mem_map.mpr ⟨n, List.mem_filter.mpr ⟨List.mem_range.mpr z, decide_eq_true nl⟩, rfl⟩
        rw [hws] at this; cases this
      · exact z
    simp only [ltF, tru]
    rw [if_neg (by simp only [decide_eq_true_eq]; omega), wSs]
    exact rest
  | cons w0 wr =>
    subst hw
    simp only [List.isEmpty_cons, Bool.not_false, if_true]
    refine ⟨l, x, y, rfl, hl1, KO.bd, by7.mono (by decide), farY, fun n n60 nb nl => ?_⟩
    have w0n : w0 = (n : Int) := by
      have hh : (((List.range 31).filter fun k => decide (st l x k < y)).map (fun k : Nat => (k : Int))).head? = some w0 := by rw [hws]; rfl
      rw [List.head?_map, List.head?_filter] at hh
      cases hf : (List.range 31).find? fun k => decide (st l x k < y) with
      | none => rw [hf] at hh; cases hh
      | some j =>
        rw [hf] at hh
        simp only [Option.map_some, Option.some.injEq] at hh
        rw [List.find?_range_eq_some] at hf
        obtain ⟨f1, f2, f3⟩ := hf
        have e : j = n := by
          rcases Nat.lt_trichotomy j n with z | z | z
          · exact absurd (of_decide_eq_true f1) (nb j z)
          · exact z
          · have := f3 n z
            simp [nl] at this
        rw [← hh, e]
    simp only [List.map_cons, idxF]
    refine ⟨.int w0, by unfold atI ixN; rw [if_pos (by decide), if_pos (by simp)]; rfl, ?_⟩
    subst w0n
    rw [show GG.fn 19 = spSame 4 from rfl]
    refine sp_same_refl rfl (show 0 < 4 by decide) (Nat.zero_le _) ?_
    simp only [tru, Bool.not_true, Bool.false_eq_true, if_false]
    refine ⟨(show 0 ≤ 1000 by decide), ⟨pl0.1, rfl, Nat.le_trans (Nat.min_le_right _ _) (show 1 ≤ 60 by decide)⟩, ?_⟩
    rw [wSs]
    exact rest
theorem turn_ok {s2 s3 s4 s5 s6 s7 s8 s9 s10 s11 s12 s13 s14 s15 s16 s17 s18 s19 s20 : Sl} {D : En} (hD : ∀ s2 s3 s4 s5 s6 s7 s8 s9 s10 s11 s12 s13 s14 s15 s16 s17 s18 s19 s20, D.nx [.no, .val .tape, s2, s3, s4, s5, s6, s7, s8, s9, s10, s11, s12, s13, s14, s15, s16, s17, s18, s19, s20]) :
    wSs GG [lb0, lb1, lb2, lb3, lb4, lb5, lb6, lb7, lb8, lb9, lb10, lb11, lb12, lb13, lb14] D [.no, .val .tape, s2, s3, s4, s5, s6, s7, s8, s9, s10, s11, s12, s13, s14, s15, s16, s17, s18, s19, s20] := by
  have sz : sizeLine = 16777216 := sizeLine_eq
  rw [wSs, lb0, wS]
  simp only [TL.wE, wEs, slV]
  refine draw_read rfl (by decide) (small_lt (by decide) (by decide)) fun q0 a0 a1 => ?_
  simp only [bin2, asg, List.set]
  obtain ⟨q, rfl⟩ : ∃ q, 1 + q0 = q := ⟨_, rfl⟩
  rw [wSs, lb1, wS]
  simp only [TL.wE, wEs, slV]
  refine draw_read rfl (by omega) (small_lt (by omega) (by decide)) fun d d0 d1 => ?_
  refine ⟨d, 1 + q0, rfl, by omega, small_lt (by omega) (by decide), small_lt (by omega) (by decide), ?_⟩
  have KO := keepOk (keep_of d0 d1 (by omega) (by omega))
  generalize Rat.divInt d (1 + q0) = x at KO
  refine draw_read rfl (by decide) (small_lt (by decide) (by decide)) fun l0 b0 b1 => ?_
  simp only [bin2]
  refine draw_read rfl (by decide) (small_lt (by decide) (by decide)) fun m0 c0 c1 => ?_
  simp only [bin2, asg, asgs, List.set]
  refine ⟨(show 3 ≤ 1000 by decide), ?_⟩
  obtain ⟨l, hl⟩ : ∃ l, 1 + l0 = l := ⟨_, rfl⟩
  obtain ⟨m, hm⟩ : ∃ m : Nat, 1 + m0 = (m : Int) := ⟨(1 + m0).toNat, by omega⟩
  rw [hl, hm]
  have hl1 : l.natAbs < 2 ^ 7 := by omega
  have m1 : 1 ≤ m := by omega
  have m9 : m ≤ 9 := by omega
  rw [wSs, lb2, wS]
  simp only [TL.wE, wEs, slV]
  refine ⟨l, x, 31, rfl, hl1, KO.bd, by decide, ?_⟩
  simp only [asg, List.set]
  rw [wSs, lb3, wS]
  simp only [tst, TL.wE, wEs, slV]
  refine ⟨rT x, rfl, rfl, fun p q e => ?_, ?_⟩
  · cases e
    exact ⟨Nat.lt_of_lt_of_le KO.bd.1 (Nat.pow_le_pow_right (by decide) (by decide)), Nat.lt_of_lt_of_le (show ((x.den : Int)).natAbs < 2 ^ 4 by simpa using KO.bd.2) (Nat.pow_le_pow_right (by decide) (by decide))⟩
  simp only [KO.kp, cmp2, isT, Option.some.injEq, exists_eq_left', decide_true, Bool.not_true, tru, Bool.false_eq_true, if_false]
  refine ⟨l, x, m, rfl, hl1, KO.bd, by omega, l, x, m, rfl, hl1, KO.bd, by omega, (show 2 ≤ 1000 by decide), ?_⟩
  simp only [TL.isNon, wPt, T.int.injEq, exists_eq_left', sliF, idxF, b1F]
  rw [cutT_rng _ 31 m (by omega)]
  refine ⟨_, at_rng _ 31 m (by omega), (show 2 ≤ 1000 by decide), ?_⟩
  rw [show GG.fn 19 = spSame 4 from rfl]
  refine sp_same_refl ?_ ?_ ?_ ?_
  · rw [T.pl, plAll, plAll, plAll, rT_pl, T.pl]
    rw [plAll_of]
    · rfl
    · intro t ht
      obtain ⟨k, _, rfl⟩ := List.mem_map.mp ht
      rfl
  · rw [T.dep, depAll, depAll, depAll, rT_dep, T.dep]
    have : depAll ((List.range m).map fun k => rT (st l x k)) ≤ 1 := depAll_le fun t ht => by
      obtain ⟨k, _, rfl⟩ := List.mem_map.mp ht
      exact Nat.le_refl _
    omega
  · rw [T.wid, widAll, widAll, widAll, rT_wid, T.wid]
    have : widAll ((List.range m).map fun k => rT (st l x k)) ≤ 2 := widAll_le fun t ht => by
      obtain ⟨k, _, rfl⟩ := List.mem_map.mp ht
      exact Nat.le_refl _
    simp only [List.length_cons, List.length_nil, List.length_map, List.length_range]
    omega
  simp only [Bool.not_true, tru, Bool.false_eq_true, if_false]
  rw [wSs]
  dsimp only
  rw [wSs, lb4, wS]
  simp only [TL.wE, wEs, slV, TL.isNon, wPt, T.int.injEq, exists_eq_left', sliF, bin2]
  rw [cutT_rng _ 31 m (by omega)]
  refine ⟨(List.range m).map fun k => st l x k, by rw [List.map_map]; rfl, fun z hz => ?_, by simp only [List.length_map, List.length_range]; omega, ?_⟩
  · obtain ⟨k, hk, rfl⟩ := List.mem_map.mp hz
    have := List.mem_range.mp hk
    exact (bd_st hl1 KO.bd k).mono (by omega)
  rw [fold_whl]
  refine ⟨1, x, m + 1, rfl, by decide, KO.bd, by omega, ?_⟩
  simp only [idxF]
  refine ⟨_, at_rng _ (m + 1) m (by omega), ?_⟩
  rw [pow1]
  simp only [parSet, List.set]
  have bW := bd_whl hl1 KO.bd m (by omega)
  have bP := bd_pow KO.bd m
  have gm := geo l x m
  have nx := rat_nd x
  have np := rat_nd (x ^ m)
  have xd := x.den_pos
  have pd := (x ^ m).den_pos
  have dn : (x.den : Int) - x.num ≠ 0 := by have := KO.nd; omega
  have hx4 : ((x.den : Int)).natAbs < 2 ^ 4 := by simpa using KO.bd.2
  have hx5 := KO.bd.1
  rw [wSs, lb5, wS]
  simp only [TL.wE, wEs, slV, rT, idxF, atI0, atI1, Option.some.injEq, exists_eq_left', bin2]
  have hp1 : (x ^ m).num.natAbs < 2 ^ 37 := Nat.lt_of_lt_of_le bP.1 (Nat.pow_le_pow_right (by decide) (by omega))
  have hp2 : (((x ^ m).den : Int)).natAbs < 2 ^ 37 := by
    have := Nat.lt_of_lt_of_le bP.2 (Nat.pow_le_pow_right (n := 2) (by decide) (show 4 * m + 1 ≤ 37 by omega))
    simpa using this
  have hp3 : ((((x ^ m).den : Int)) - (x ^ m).num).natAbs < 2 ^ 38 := by omega
  have hm1 : (l * ((((x ^ m).den : Int)) - (x ^ m).num)).natAbs < 2 ^ 45 := by
    rw [Int.natAbs_mul, show (2 : Nat) ^ 45 = 2 ^ 7 * 2 ^ 38 by decide]
    exact Nat.mul_lt_mul'' hl1 hp3
  have hm2 : (l * ((((x ^ m).den : Int)) - (x ^ m).num) * (x.den : Int)).natAbs < 2 ^ 49 := by
    rw [Int.natAbs_mul, show (2 : Nat) ^ 49 = 2 ^ 45 * 2 ^ 4 by decide]
    exact Nat.mul_lt_mul'' hm1 hx4
  have hm3 : ((((x ^ m).den : Int)) * ((x.den : Int) - x.num)).natAbs < 2 ^ 42 := by
    rw [Int.natAbs_mul, show (2 : Nat) ^ 42 = 2 ^ 37 * 2 ^ 5 by decide]
    exact Nat.mul_lt_mul'' hp2 (show ((x.den : Int) - x.num).natAbs < 2 ^ 5 by omega)
  have big : ∀ k : Nat, 2 ^ k ≤ 2 ^ 8000 ∨ 8000 < k := fun k => by
    rcases Nat.lt_or_ge 8000 k with z | z
    · exact .inr z
    · exact .inl (Nat.pow_le_pow_right (by decide) z)
  have lt8 : ∀ {n k : Nat}, n < 2 ^ k → k ≤ 100 → n < 2 ^ 8000 := fun h hk => Nat.lt_of_lt_of_le h (Nat.pow_le_pow_right (by decide) (by omega))
  have dnz : (((x ^ m).den : Int)) * ((x.den : Int) - x.num) ≠ 0 := Int.mul_ne_zero (by omega) dn
  have due : Rat.divInt (l * ((((x ^ m).den : Int)) - (x ^ m).num) * (x.den : Int)) ((((x ^ m).den : Int)) * ((x.den : Int) - x.num)) = whl l x m := by
    refine divInt_of dnz ?_
    rw [Rat.intCast_mul, Rat.intCast_mul, Rat.intCast_mul, Rat.intCast_sub, Rat.intCast_sub, ← nx, ← np]
    show whl l x m * (((x ^ m).den : Rat) * ((x.den : Rat) - x * (x.den : Rat))) = (l : Rat) * (((x ^ m).den : Rat) - x ^ m * ((x ^ m).den : Rat)) * (x.den : Rat)
    grind
  refine ⟨mulOk_lt hl1 hp3 (by decide) (by decide) (by decide), mulOk_lt hm1 hx4 (by decide) (by decide) (by decide), mulOk_lt (k := 37) (l := 5) hp2 (by omega) (by decide) (by decide) (by decide), _, _, rfl, dnz, lt8 hm2 (by decide), lt8 hm3 (by decide), ?_⟩
  rw [due]
  simp only [asg, List.set]
  rw [wSs, lb6, wS]
  simp only [TL.wE, wEs, slV, rT, idxF, atI0, atI1, Option.some.injEq, exists_eq_left', bin2]
  have hm4 : (l * (x.den : Int)).natAbs < 2 ^ 11 := by
    rw [Int.natAbs_mul, show (2 : Nat) ^ 11 = 2 ^ 7 * 2 ^ 4 by decide]
    exact Nat.mul_lt_mul'' hl1 hx4
  refine ⟨mulOk_lt hl1 hx4 (by decide) (by decide) (by decide), _, _, rfl, dn, lt8 hm4 (by decide), lt8 (k := 5) (by omega) (by decide), ?_⟩
  obtain ⟨L, hL⟩ : ∃ L, Rat.divInt (l * (x.den : Int)) ((x.den : Int) - x.num) = L := ⟨_, rfl⟩
  have bL : RBd 11 L := by
    rw [← hL]
    exact divInt_bd dn hm4 (by omega)
  have eL : L * (1 - x) = (l : Rat) := by
    have : L = (l : Rat) / (1 - x) := by
      rw [← hL]
      have n1 : (1 : Rat) - x ≠ 0 := by have := KO.l1; grind
      refine divInt_of dn ?_
      rw [Rat.intCast_mul, Rat.intCast_sub, ← nx]
      have := Rat.div_mul_cancel (a := (l : Rat)) n1
      show (l : Rat) / (1 - x) * ((x.den : Rat) - x * (x.den : Rat)) = (l : Rat) * (x.den : Rat)
      grind
    rw [this]
    exact Rat.div_mul_cancel (by have := KO.l1; grind)
  rw [hL]
  simp only [asg, List.set]
  rw [wSs, lb7, wS]
  simp only [tst, TL.wE, wEs, slV]
  refine ⟨l, x, m, rfl, hl1, KO.bd, by omega, l, x, rfl, hl1, KO.bd, KO.nd, ?_⟩
  rw [hL]
  refine ⟨x, m, rfl, KO.bd, by omega, (show 3 ≤ 1000 by decide), (show 3 ≤ 1000 by decide), ?_⟩
  rw [show GG.fn 19 = spSame 4 from rfl]
  refine sp_same_refl (t := .tup [rT (whl l x m), rT L, rT (x ^ m)]) rfl (show 2 < 4 by decide) (show 3 ≤ 16777216 by decide) ?_
  simp only [Bool.not_true, tru, Bool.false_eq_true, if_false, cmp2]
  refine ⟨EqOk_pair _ _ rfl, ?_⟩
  rw [teq_pair]
  simp only [decide_true, Bool.and_true, Bool.not_true, Bool.false_eq_true, if_false]
  rw [wSs]
  dsimp only
  have hl0 : 0 ≤ l := by omega
  rw [wSs, lb8, wS]
  simp only [tst, TL.wE, wEs, slV, rT, idxF, atI0, atI1, Option.some.injEq, exists_eq_left', cmp2]
  refine ⟨x.num, 0, rfl, rfl, ?_⟩
  simp only [tru]
  by_cases c : 0 < x.num
  · rw [if_pos (decide_eq_true c)]
    refine ⟨whl l x m, L, rfl, bW.mono (by omega), bL.mono (by decide), ?_⟩
    have xp : 0 < x := Rat.lt_of_le_of_ne KO.nn fun z => by rw [← z] at c; exact absurd c (by decide)
    have pp : 0 < x ^ m := Rat.pow_pos xp
    have lp : (0 : Rat) < (l : Rat) := Rat.intCast_pos.mpr (by omega)
    have hlt : whl l x m < L := by
      have h1 : (0 : Rat) < 1 - x := by have := KO.l1; grind
      refine Rat.lt_of_mul_lt_mul_right (c := 1 - x) ?_ (Rat.le_of_lt h1)
      rw [gm, eL]
      have := Rat.mul_pos lp pp
      grind
    rw [decide_eq_true hlt]
    simp only [tru, Bool.not_true, Bool.false_eq_true, if_false]
    rw [wSs]
    exact turn2 KO hl1 hl0 (by omega) m1 m9 hD
  · rw [if_neg (by simpa using c), if_neg (by simpa using c), wSs]
    exact turn2 KO hl1 hl0 (by omega) m1 m9 hD

theorem w_law : wSs GG ir_law lawD (law0 n_law.length) := by
  show wSs GG ir_law lawD [.no, .val .tape, .no, .no, .no, .no, .no, .no, .no, .no, .no, .no, .no, .no, .no, .no, .no, .no, .no, .no, .no]
  have sz : sizeLine = 16777216 := sizeLine_eq
  rw [law_eq, wSs, wS]
  have c0 : GG.cs 0 = .int 100 := rfl
  have c1 : GG.cs 1 = .int 30 := rfl
  simp only [tst, TL.wE, wEs, c0, c1, cmp2]
  refine ⟨(show 2 ≤ 1000 by decide), (show 2 ≤ 1000 by decide), EqOk_pair _ _ rfl, ?_⟩
  rw [teq_pair]
  simp only [decide_true, Bool.and_self, Bool.not_true, tru, Bool.false_eq_true, if_false]
  rw [wSs]
  dsimp only
  rw [wSs, wS]
  simp only [TL.wE]
  refine ⟨0, 5, rfl, rfl, ⟨by decide, by decide, by decide, by decide⟩, by omega, ?_⟩
  simp only [seqOf]
  refine wFor_inv (fun i σ => ∃ s2 s3 s4 s5 s6 s7 s8 s9 s10 s11 s12 s13 s14 s15 s16 s17 s18 s19 s20, σ = [.no, .val .tape, s2, s3, s4, s5, s6, s7, s8, s9, s10, s11, s12, s13, s14, s15, s16, s17, s18, s19, s20]) _ (fun i x σ nx hx hI hn => ?_) (fun σ hI => ?_) _ ⟨_, _, _, _, _, _, _, _, _, _, _, _, _, _, _, _, _, _, _, rfl⟩
  · obtain ⟨s2, s3, s4, s5, s6, s7, s8, s9, s10, s11, s12, s13, s14, s15, s16, s17, s18, s19, s20, rfl⟩ := hI
    simp only [asg, List.set]
    exact turn_ok fun s2 s3 s4 s5 s6 s7 s8 s9 s10 s11 s12 s13 s14 s15 s16 s17 s18 s19 s20 => hn _ ⟨_, _, _, _, _, _, _, _, _, _, _, _, _, _, _, _, _, _, _, rfl⟩
  · obtain ⟨s2, s3, s4, s5, s6, s7, s8, s9, s10, s11, s12, s13, s14, s15, s16, s17, s18, s19, s20, rfl⟩ := hI
    dsimp only
    rw [wSs, wS]
    simp only [TL.wE, wEs]
    have x1 : RBd 4 (Rat.divInt 1 2) := ⟨by decide +kernel, by decide +kernel⟩
    have x0 : RBd 4 (0 : Rat) := ⟨by decide +kernel, by decide +kernel⟩
    have r12 : rT (Rat.divInt 1 2) = .tup [.int 1, .int 2] := by
      unfold rT
      rw [show (Rat.divInt 1 2).num = 1 by decide +kernel, show (Rat.divInt 1 2).den = 2 by decide +kernel]; rfl
    have r52 : rT (Rat.divInt 5 2) = .tup [.int 5, .int 2] := by
      unfold rT
      rw [show (Rat.divInt 5 2).num = 5 by decide +kernel, show (Rat.divInt 5 2).den = 2 by decide +kernel]; rfl
    refine ⟨(show 2 ≤ 1000 by decide), 8, Rat.divInt 1 2, 3, by rw [r12]; rfl, by decide, x1, by decide, ?_⟩
    rw [show whl 8 (Rat.divInt 1 2) 3 = 14 by decide +kernel]
    refine ⟨(show 2 ≤ 1000 by decide), (show 2 ≤ 1000 by decide), Rat.divInt 1 2, 3, Rat.divInt 5 2, by rw [r12, r52]; rfl, x1, by decide, by decide, RBd.mono (k := 4) ⟨by decide +kernel, by decide +kernel⟩ (by decide), ?_⟩
    rw [if_neg (show ¬ ((Rat.divInt 1 2) ^ (3 - 1)).num = 0 by decide +kernel), show lt (Rat.divInt 5 2) ((Rat.divInt 1 2) ^ (3 - 1)) = 10 by decide +kernel]
    refine ⟨(show 2 ≤ 1000 by decide), (show 2 ≤ 1000 by decide), 0, 2, 1, rfl, x0, by decide, by decide, RBd.mono (k := 4) ⟨by decide +kernel, by decide +kernel⟩ (by decide), ?_⟩
    rw [if_pos (show ((0 : Rat) ^ (2 - 1)).num = 0 by decide +kernel)]
    refine ⟨(show 3 ≤ 1000 by decide), (show 2 ≤ 1000 by decide), (show 3 ≤ 1000 by decide), ?_⟩
    rw [show GG.fn 19 = spSame 4 from rfl]
    exact sp_same_refl (t := .tup [rT 14, .int 10, .non]) rfl (show 2 < 4 by decide) (show 3 ≤ 16777216 by decide) rfl
/-! ### printed by gen.py: the head -/
def fns : List He.DefD := [mkD "is_whole" 1, mkD "divisor_of" 3, mkD "ratio_of" 4, mkD "is_ratio" 5, mkD "sum_of" 6, mkD "times_of" 7, mkD "is_below" 8, mkD "floor_of" 9, mkD "is_keep" 13, mkD "kept_power" 14, mkD "strength_of" 15, mkD "cup_strengths" 16, mkD "whole_strength" 17, mkD "strength_limit" 18, mkD "least_times" 19, mkD "leaves_for" 20, mkD "leaves_for_all" 21, mkD "cups_as_strong" 22, mkD "_law_draw" 26, mkD "_law_same" 27, mkD "_law_bent" 28, mkD "_law_ratio" 29, mkD "_law_plus" 30, mkD "_law_less" 31, mkD "_law_sum" 32, mkD "_law_is_ratio" 33, mkD "_law_run" 34, mkD "_law_box" 24, mkD "_law_load" 25, mkD "law" 35]
def fa0 : List He.Fa := [.glo "is_whole", .glo "divisor_of", .glo "ratio_of", .glo "is_ratio", .glo "sum_of", .glo "times_of", .glo "is_below", .glo "floor_of", .glo "is_keep", .glo "kept_power", .glo "strength_of", .glo "cup_strengths", .glo "whole_strength", .glo "strength_limit", .glo "least_times", .glo "leaves_for", .glo "leaves_for_all", .glo "cups_as_strong", .glo "_law_draw", .glo "_law_same", .glo "_law_bent", .glo "_law_ratio", .glo "_law_plus", .glo "_law_less", .glo "_law_sum", .glo "_law_is_ratio", .glo "_law_run", .glo "_law_box", .glo "_law_load", .glo "law"]
def fa1 : List He.Fa := [.free "abs", .free "all", .free "bool", .free "int", .free "isinstance", .free "len", .free "list", .free "max", .free "range", .free "str", .free "tuple", .int "MOST_LEAVES" 100, .int "MOST_POURS" 30]
def fas : List He.Fa := fa0 ++ fa1
def lo0 : List Str := ["_law_bent", "_law_box", "_law_draw", "_law_is_ratio", "_law_less", "_law_load", "_law_plus", "_law_ratio", "_law_run", "_law_same", "_law_sum", "cup_strengths", "cups_as_strong", "divisor_of", "floor_of", "is_below", "is_keep", "is_ratio", "is_whole", "kept_power", "least_times", "leaves_for", "leaves_for_all", "ratio_of", "strength_limit", "strength_of", "sum_of", "times_of", "whole_strength", "MOST_LEAVES"]
def lo1 : List Str := ["MOST_POURS"]
def loose : List Str := lo0 ++ lo1
abbrev R : PySem.W.OpenRow := PySem.W.OpenLaw.row PySem.Challenge.rw_teasblended_k30_whole_pourings_of_a_pot
abbrev hk : PySem.W.Hook := He.hookD 4 fas fns
def ob (s : PySem.W.SharedT) : He.AlD := He.obsDG 4 fas fns (HandSHeadRun.getT s)
theorem ob_eq (s : PySem.W.SharedT) : ob s = hk.obs s.abs := He.obsDG_eq (HandSHeadRun.getT_eq s)
theorem run (w : World) : HandSHeadRun.RunEq R (PySem.W.view R.prog [35]) hk ob 4000 loose w := by
  intro os
  kernel_rfl
theorem facts {P : Program} {w : World} {K : PySem.W.Frag} {h : Heap} {mg : Str → Option Value} {f : Addr} (X : K.In h) (G : h.Ns mainGlobals mg) (hfa : mg ("law" : Str) = some (.ref f)) (c : He.SaysD fas fns K) :
    ∃ (fd : FuncData), (∀ (s : Shared) (v : Value), BindsTo s fd ⟨[v], []⟩ [("script", v)]) ∧ ∀ base : Heap, K.In base → base.Ns mainGlobals mg → FnOk P w K mg base CX0 200 f fd ["script"] (spLaw K) := by
  obtain ⟨fd0, F0⟩ := c.def_ 0 (d := mkD "is_whole" 1) rfl
  have m0 := He.glo_ok X G (c.fact 0 (f := .glo "is_whole") rfl)
  obtain ⟨fd1, F1⟩ := c.def_ 1 (d := mkD "divisor_of" 3) rfl
  have m1 := He.glo_ok X G (c.fact 1 (f := .glo "divisor_of") rfl)
  obtain ⟨fd2, F2⟩ := c.def_ 2 (d := mkD "ratio_of" 4) rfl
  have m2 := He.glo_ok X G (c.fact 2 (f := .glo "ratio_of") rfl)
  obtain ⟨fd3, F3⟩ := c.def_ 3 (d := mkD "is_ratio" 5) rfl
  have m3 := He.glo_ok X G (c.fact 3 (f := .glo "is_ratio") rfl)
  obtain ⟨fd4, F4⟩ := c.def_ 4 (d := mkD "sum_of" 6) rfl
  have m4 := He.glo_ok X G (c.fact 4 (f := .glo "sum_of") rfl)
  obtain ⟨fd5, F5⟩ := c.def_ 5 (d := mkD "times_of" 7) rfl
  have m5 := He.glo_ok X G (c.fact 5 (f := .glo "times_of") rfl)
  obtain ⟨fd6, F6⟩ := c.def_ 6 (d := mkD "is_below" 8) rfl
  have m6 := He.glo_ok X G (c.fact 6 (f := .glo "is_below") rfl)
  obtain ⟨fd7, F7⟩ := c.def_ 7 (d := mkD "floor_of" 9) rfl
  have m7 := He.glo_ok X G (c.fact 7 (f := .glo "floor_of") rfl)
  obtain ⟨fd8, F8⟩ := c.def_ 8 (d := mkD "is_keep" 13) rfl
  have m8 := He.glo_ok X G (c.fact 8 (f := .glo "is_keep") rfl)
  obtain ⟨fd9, F9⟩ := c.def_ 9 (d := mkD "kept_power" 14) rfl
  have m9 := He.glo_ok X G (c.fact 9 (f := .glo "kept_power") rfl)
  obtain ⟨fd10, F10⟩ := c.def_ 10 (d := mkD "strength_of" 15) rfl
  have m10 := He.glo_ok X G (c.fact 10 (f := .glo "strength_of") rfl)
  obtain ⟨fd11, F11⟩ := c.def_ 11 (d := mkD "cup_strengths" 16) rfl
  have m11 := He.glo_ok X G (c.fact 11 (f := .glo "cup_strengths") rfl)
  obtain ⟨fd12, F12⟩ := c.def_ 12 (d := mkD "whole_strength" 17) rfl
  have m12 := He.glo_ok X G (c.fact 12 (f := .glo "whole_strength") rfl)
  obtain ⟨fd13, F13⟩ := c.def_ 13 (d := mkD "strength_limit" 18) rfl
  have m13 := He.glo_ok X G (c.fact 13 (f := .glo "strength_limit") rfl)
  obtain ⟨fd14, F14⟩ := c.def_ 14 (d := mkD "least_times" 19) rfl
  have m14 := He.glo_ok X G (c.fact 14 (f := .glo "least_times") rfl)
  obtain ⟨fd15, F15⟩ := c.def_ 15 (d := mkD "leaves_for" 20) rfl
  have m15 := He.glo_ok X G (c.fact 15 (f := .glo "leaves_for") rfl)
  obtain ⟨fd16, F16⟩ := c.def_ 16 (d := mkD "leaves_for_all" 21) rfl
  have m16 := He.glo_ok X G (c.fact 16 (f := .glo "leaves_for_all") rfl)
  obtain ⟨fd17, F17⟩ := c.def_ 17 (d := mkD "cups_as_strong" 22) rfl
  have m17 := He.glo_ok X G (c.fact 17 (f := .glo "cups_as_strong") rfl)
  obtain ⟨fd18, F18⟩ := c.def_ 18 (d := mkD "_law_draw" 26) rfl
  have m18 := He.glo_ok X G (c.fact 18 (f := .glo "_law_draw") rfl)
  obtain ⟨fd19, F19⟩ := c.def_ 19 (d := mkD "_law_same" 27) rfl
  have m19 := He.glo_ok X G (c.fact 19 (f := .glo "_law_same") rfl)
  obtain ⟨fd20, F20⟩ := c.def_ 20 (d := mkD "_law_bent" 28) rfl
  have m20 := He.glo_ok X G (c.fact 20 (f := .glo "_law_bent") rfl)
  obtain ⟨fd21, F21⟩ := c.def_ 21 (d := mkD "_law_ratio" 29) rfl
  have m21 := He.glo_ok X G (c.fact 21 (f := .glo "_law_ratio") rfl)
  obtain ⟨fd22, F22⟩ := c.def_ 22 (d := mkD "_law_plus" 30) rfl
  have m22 := He.glo_ok X G (c.fact 22 (f := .glo "_law_plus") rfl)
  obtain ⟨fd23, F23⟩ := c.def_ 23 (d := mkD "_law_less" 31) rfl
  have m23 := He.glo_ok X G (c.fact 23 (f := .glo "_law_less") rfl)
  obtain ⟨fd24, F24⟩ := c.def_ 24 (d := mkD "_law_sum" 32) rfl
  have m24 := He.glo_ok X G (c.fact 24 (f := .glo "_law_sum") rfl)
  obtain ⟨fd25, F25⟩ := c.def_ 25 (d := mkD "_law_is_ratio" 33) rfl
  have m25 := He.glo_ok X G (c.fact 25 (f := .glo "_law_is_ratio") rfl)
  obtain ⟨fd26, F26⟩ := c.def_ 26 (d := mkD "_law_run" 34) rfl
  have m26 := He.glo_ok X G (c.fact 26 (f := .glo "_law_run") rfl)
  obtain ⟨fd27, F27⟩ := c.def_ 27 (d := mkD "_law_box" 24) rfl
  have m27 := He.glo_ok X G (c.fact 27 (f := .glo "_law_box") rfl)
  obtain ⟨fd28, F28⟩ := c.def_ 28 (d := mkD "_law_load" 25) rfl
  have m28 := He.glo_ok X G (c.fact 28 (f := .glo "_law_load") rfl)
  obtain ⟨fd29, F29⟩ := c.def_ 29 (d := mkD "law" 35) rfl
  cases hfa.symm.trans (He.glo_ok X G (c.fact 29 (f := .glo "law") rfl))
  have bl : ∀ x ∈ blNames, mg x = none := fun x hx => by
    simp only [blNames, List.mem_cons, List.not_mem_nil, or_false] at hx
    rcases hx with rfl | rfl | rfl | rfl | rfl | rfl | rfl | rfl | rfl | rfl | rfl
    · exact He.free_ok X G (c.fact 30 (f := .free "abs") rfl)
    · exact He.free_ok X G (c.fact 31 (f := .free "all") rfl)
    · exact He.free_ok X G (c.fact 32 (f := .free "bool") rfl)
    · exact He.free_ok X G (c.fact 33 (f := .free "int") rfl)
    · exact He.free_ok X G (c.fact 34 (f := .free "isinstance") rfl)
    · exact He.free_ok X G (c.fact 35 (f := .free "len") rfl)
    · exact He.free_ok X G (c.fact 36 (f := .free "list") rfl)
    · exact He.free_ok X G (c.fact 37 (f := .free "max") rfl)
    · exact He.free_ok X G (c.fact 38 (f := .free "range") rfl)
    · exact He.free_ok X G (c.fact 39 (f := .free "str") rfl)
    · exact He.free_ok X G (c.fact 40 (f := .free "tuple") rfl)
  obtain ⟨t0, e0⟩ := He.int_ok X G (c.fact 41 (f := .int "MOST_LEAVES" 100) rfl)
  obtain ⟨t1, e1⟩ := He.int_ok X G (c.fact 42 (f := .int "MOST_POURS" 30) rfl)
  have cs : ∀ (i : Nat) x, csNames[i]? = some x → ∃ v u, mg x = some u ∧ RelV v u ∧ ∀ tp H, RT K tp H (GG.cs i) v := fun i x e => by
    match i, e with
    | 0, e => cases e; exact ⟨.int 100, _, e0, ⟨t0, rfl⟩, fun tp H => RT.int_i _⟩
    | 1, e => cases e; exact ⟨.int 30, _, e1, ⟨t1, rfl⟩, fun tp H => RT.int_i _⟩
    | n + 2, e => cases e
  refine ⟨fd29, ?_, fun base _ _ => ?_⟩
  rotate_left 1
  · have okB := ok_box (P := P) (w := w) (mg := mg) (base := base) F27 sc_law_box rfl rfl rfl rfl (bl _ (by decide +kernel)) (bl _ (by decide +kernel))
    have okL := ok_load (P := P) (w := w) (mg := mg) (base := base) F28 sc_law_load (by decide +kernel) rfl rfl rfl (bl _ (by decide +kernel)) (bl _ (by decide +kernel)) rfl
    have okD := ok_draw F18 sc_law_draw (by decide +kernel) rfl rfl rfl okL m28 F28.kp (F28.bindsN fun _ _ _ _ _ _ us hl => match us, hl with | [_], _ => rfl) (bl _ (by decide +kernel))
    have g0 : GlobOk GG ⟨fnNames.take 0, csNames, blNames⟩ 1 P w K mg base := ⟨bl, cs, fun i x fr e => by cases e⟩
    have g1 := g0.more (fns := fnNames) (n := 0) rfl (fn_fact g0 m0 F0 sc_is_whole ir_is_whole (fun _ _ _ _ _ _ us hl => match us, hl with | [_], _ => rfl) ck_is_whole w_is_whole)
    have g2 := g1.more (fns := fnNames) (n := 1) rfl (fn_fact g1 m1 F1 sc_divisor_of ir_divisor_of (fun _ _ _ _ _ _ us hl => match us, hl with | [_, _], _ => rfl) ck_divisor_of w_divisor_of)
    have g3 := g2.more (fns := fnNames) (n := 2) rfl (fn_fact g2 m2 F2 sc_ratio_of ir_ratio_of (fun _ _ _ _ _ _ us hl => match us, hl with | [_, _], _ => rfl) ck_ratio_of w_ratio_of)
    have g4 := g3.more (fns := fnNames) (n := 3) rfl (fn_fact g3 m3 F3 sc_is_ratio ir_is_ratio (fun _ _ _ _ _ _ us hl => match us, hl with | [_], _ => rfl) ck_is_ratio w_is_ratio)
    have g5 := g4.more (fns := fnNames) (n := 4) rfl (fn_fact g4 m4 F4 sc_sum_of ir_sum_of (fun _ _ _ _ _ _ us hl => match us, hl with | [_, _], _ => rfl) ck_sum_of w_sum_of)
    have g6 := g5.more (fns := fnNames) (n := 5) rfl (fn_fact g5 m5 F5 sc_times_of ir_times_of (fun _ _ _ _ _ _ us hl => match us, hl with | [_, _], _ => rfl) ck_times_of w_times_of)
    have g7 := g6.more (fns := fnNames) (n := 6) rfl (fn_fact g6 m6 F6 sc_is_below ir_is_below (fun _ _ _ _ _ _ us hl => match us, hl with | [_, _], _ => rfl) ck_is_below w_is_below)
    have g8 := g7.more (fns := fnNames) (n := 7) rfl (fn_fact g7 m7 F7 sc_floor_of ir_floor_of (fun _ _ _ _ _ _ us hl => match us, hl with | [_], _ => rfl) ck_floor_of w_floor_of)
    have g9 := g8.more (fns := fnNames) (n := 8) rfl (fn_fact g8 m8 F8 sc_is_keep ir_is_keep (fun _ _ _ _ _ _ us hl => match us, hl with | [_], _ => rfl) ck_is_keep w_is_keep)
    have g10 := g9.more (fns := fnNames) (n := 9) rfl (fn_fact g9 m9 F9 sc_kept_power ir_kept_power (fun _ _ _ _ _ _ us hl => match us, hl with | [_, _], _ => rfl) ck_kept_power w_kept_power)
    have g11 := g10.more (fns := fnNames) (n := 10) rfl (fn_fact g10 m10 F10 sc_strength_of ir_strength_of (fun _ _ _ _ _ _ us hl => match us, hl with | [_, _, _], _ => rfl) ck_strength_of w_strength_of)
    have g12 := g11.more (fns := fnNames) (n := 11) rfl (fn_fact g11 m11 F11 sc_cup_strengths ir_cup_strengths (fun _ _ _ _ _ _ us hl => match us, hl with | [_, _, _], _ => rfl) ck_cup_strengths w_cup_strengths)
    have g13 := g12.more (fns := fnNames) (n := 12) rfl (fn_fact g12 m12 F12 sc_whole_strength ir_whole_strength (fun _ _ _ _ _ _ us hl => match us, hl with | [_, _, _], _ => rfl) ck_whole_strength w_whole_strength)
    have g14 := g13.more (fns := fnNames) (n := 13) rfl (fn_fact g13 m13 F13 sc_strength_limit ir_strength_limit (fun _ _ _ _ _ _ us hl => match us, hl with | [_, _], _ => rfl) ck_strength_limit w_strength_limit)
    have g15 := g14.more (fns := fnNames) (n := 14) rfl (fn_fact g14 m14 F14 sc_least_times ir_least_times (fun _ _ _ _ _ _ us hl => match us, hl with | [_, _], _ => rfl) ck_least_times w_least_times)
    have g16 := g15.more (fns := fnNames) (n := 15) rfl (fn_fact g15 m15 F15 sc_leaves_for ir_leaves_for (fun _ _ _ _ _ _ us hl => match us, hl with | [_, _, _], _ => rfl) ck_leaves_for w_leaves_for)
    have g17 := g16.more (fns := fnNames) (n := 16) rfl (fn_fact g16 m16 F16 sc_leaves_for_all ir_leaves_for_all (fun _ _ _ _ _ _ us hl => match us, hl with | [_, _, _], _ => rfl) ck_leaves_for_all w_leaves_for_all)
    have g18 := g17.more (fns := fnNames) (n := 17) rfl (fn_fact g17 m17 F17 sc_cups_as_strong ir_cups_as_strong (fun _ _ _ _ _ _ us hl => match us, hl with | [_, _, _], _ => rfl) ck_cups_as_strong w_cups_as_strong)
    have g19 := g18.more (fns := fnNames) (n := 18) rfl (FnFact.mono ⟨_, _, _, m18, F18.kp, F18.bindsN (ps := ["box", "many"]) (fun _ _ _ _ _ _ us hl => match us, hl with | [_, _], _ => rfl), okD⟩ (by omega))
    have g20 := (g19.lift (Nat.le_add_right _ D_law_same)).more (fns := fnNames) (n := 19) rfl (fn_rec g19 (fns := fnNames) (n := 19) m19 F19 sc_law_same rfl ir_law_same (fun _ _ _ _ _ _ us hl => match us, hl with | [_, _], _ => rfl) ck_law_same sp_law_same z_law_same w_law_same D_law_same)
    have g21 := (g20.lift (Nat.le_add_right _ D_law_bent)).more (fns := fnNames) (n := 20) rfl (fn_rec g20 (fns := fnNames) (n := 20) m20 F20 sc_law_bent rfl ir_law_bent (fun _ _ _ _ _ _ us hl => match us, hl with | [_, _], _ => rfl) ck_law_bent sp_law_bent z_law_bent w_law_bent D_law_bent)
    have g22 := g21.more (fns := fnNames) (n := 21) rfl (fn_fact g21 m21 F21 sc_law_ratio ir_law_ratio (fun _ _ _ _ _ _ us hl => match us, hl with | [_, _], _ => rfl) ck_law_ratio w_law_ratio)
    have g23 := g22.more (fns := fnNames) (n := 22) rfl (fn_fact g22 m22 F22 sc_law_plus ir_law_plus (fun _ _ _ _ _ _ us hl => match us, hl with | [_, _], _ => rfl) ck_law_plus w_law_plus)
    have g24 := g23.more (fns := fnNames) (n := 23) rfl (fn_fact g23 m23 F23 sc_law_less ir_law_less (fun _ _ _ _ _ _ us hl => match us, hl with | [_, _], _ => rfl) ck_law_less w_law_less)
    have g25 := g24.more (fns := fnNames) (n := 24) rfl (fn_fact g24 m24 F24 sc_law_sum ir_law_sum (fun _ _ _ _ _ _ us hl => match us, hl with | [_], _ => rfl) ck_law_sum w_law_sum)
    have g26 := g25.more (fns := fnNames) (n := 25) rfl (fn_fact g25 m25 F25 sc_law_is_ratio ir_law_is_ratio (fun _ _ _ _ _ _ us hl => match us, hl with | [_], _ => rfl) ck_law_is_ratio w_law_is_ratio)
    have g27 := g26.more (fns := fnNames) (n := 26) rfl (fn_fact g26 m26 F26 sc_law_run ir_law_run (fun _ _ _ _ _ _ us hl => match us, hl with | [_, _, _], _ => rfl) ck_law_run w_law_run)
    exact (law_ok (N := n_law) g27 F29 rfl sc_law rfl rfl rfl rfl (okB.mono (by omega)) m27 F27.kp (F27.bindsN fun _ _ _ _ _ _ us hl => match us, hl with | [_], _ => rfl) ir_law ck_law w_law).mono (by decide)
  · have b := FunD.bindsA (ps := ["script"]) F29 fun _ _ _ _ _ _ us hl => match us, hl with | [_], _ => rfl
    exact fun s v => b s [v] rfl
end TK
open PySem PySem.W PySem.Calls PyProof.Rows
theorem PySem.Challenge.cw_teasblended_k30_whole_pourings_of_a_pot_holds : PySem.Challenge.rw_teasblended_k30_whole_pourings_of_a_pot.Holds := by
  w_on; o_law
  refine HandSHeadRun.head_any (r := OpenLaw.row PySem.Challenge.rw_teasblended_k30_whole_pourings_of_a_pot) (q := view (OpenLaw.row PySem.Challenge.rw_teasblended_k30_whole_pourings_of_a_pot).prog [35]) (H := TK.hk) (ob := TK.ob) (M := 4000) (loose := TK.loose) (d := HandSHeadRun.topDef (OpenLaw.row PySem.Challenge.rw_teasblended_k30_whole_pourings_of_a_pot).prog 35) (kwd := []) TK.ob_eq
    (by kernel_rfl) (fun s => by kernel_rfl) TK.run (by kernel_rfl) (by kernel_rfl) (by kernel_rfl) (by rfl) (by first | assumption | decide +kernel) (by decide +kernel) ⟨rfl, rfl, rfl, rfl, rfl, by decide +kernel⟩ ?hw ?hc
  case hw => w_witness2
  case hc =>
    refine L2.walk_ofE (l := PySem.Challenge.rw_teasblended_k30_whole_pourings_of_a_pot) (n := 63) (k := 200) (x := "script") (CX := L2.CX0) rfl (by decide) (by kernel_rfl) ⟨by decide +kernel, by decide +kernel, by decide +kernel⟩ ?F (fun _ _ _ _ z => z)
    intro w mg fa h Y G hmg0
    obtain ⟨K, KX, c⟩ := Y
    have hmg : mg ("law" : PySem.Str) = some (.ref fa) := by
      have e : (HandSHeadRun.topDef (OpenLaw.row PySem.Challenge.rw_teasblended_k30_whole_pourings_of_a_pot).prog 35).name = ("law" : PySem.Str) := by kernel_rfl
      rw [← e]
      exact hmg0
    obtain ⟨fd, hb, hF⟩ := TK.facts (P := (PySem.Challenge.rw_teasblended_k30_whole_pourings_of_a_pot).prog) (w := w) KX G hmg c
    exact ⟨K, fd, TL.spLaw K, KX, hb, fun H a ns hl _ hS => ⟨a, ns, rfl, hS, hl, fun _ => rfl⟩, hF⟩

